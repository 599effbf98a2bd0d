import PyProof.Rows.All
import Wide.All
import OpenK.AllK
import Wide.FinOn
import HandS.ForMost
import HandS.Evl
import HandS.SortInts
import HandS.Wide
import HandS.More
import HandS.IsInst
import HandS.Defaults
import HandS.HeadHook1
import HandS.HeadHook2
import KE.DataEq
import HandS.HeadHook3
import HandS.Exc
import HandS.Conv
import KE.KSuper
import KE.KExcSuper
import HandS.ExcInit
import HandS.Nested
import KE.KExcInit
import HandS.ExcField
import HandS.ExcIs
import HandS.Slots
import HandS.ExcOwn
import HandS.TryMany
import HandS.CallSlots
import HandS.Property
import HandS.Style
import HandS.ClsMeth
import HandS.IterNext
import HandS.IterVal
import HandS.OwnIter
import KE.KOwnIter
import HandS.SlotsOwn
import HandS.DictComp
import PyProof.StrBlock2
import HandS.Text
import HandS.FStr
import HandS.Zip
import KE.KCallOwn
import HandS.CallLocal
import HandS.Finally
import KE.KLam
import HandS.NestedK
import HandS.Lambda
import KE.KNestM
import HandS.EndTab
import HandS.HeadWalk
import HandS.HeadHook4
import KE.KOpsOwn
import HandS.Iter
import HandS.Walk
import PyProof.EqAt
import KE.KEqDict
import HandS.OwnEq
import PyProof.ListRange
import HandS.RevTup
import HandS.Rev
import KE.KDictPairs
import HandS.Dict
import HandS.Comp
import HandS.GenList
import HandS.MakeKwOnly
import PyProof.InstEq
import HandS.NamedTupSort
import KE.SortKeyHeap
import HandS.List
import HandS.Star
import HandS.MakeKw
import KE.KxField
import HandS.StrMore
import HandS.Codes
import HandS.RaiseMore
import PyProof.NeKinds
import KE.KStateDown
import Lean
import HandS.WordsExc
import HandS.Head0
import HandS.Head1
import HandS.Head2
import HandS.HeadEnd
import KE.KxLen
import PySem.Challenge.RW_askedpoints_k18_error_classes
set_option Elab.async false
set_option linter.all false
set_option maxRecDepth 100000
section
/-! Sim: what a reading does, told by plain Lean data (mirrors). -/
namespace Sim
open PySem L2 Evl

/-! ### heaps: the data heap G below the heap H -/
structure Up (G H G2 H2 : Hp) : Prop where
  gg : Ex G G2
  gh : Ex G2 H2
  hh : Ex H H2
  nw : ∀ a, H a ≠ none → G a = none → G2 a = none
theorem Up.refl {G H : Hp} (e : Ex G H) : Up G H G H := ⟨Ex.refl _, e, Ex.refl _, fun _ _ h => h⟩
theorem Up.trans {G H G1 H1 G2 H2 : Hp} (a : Up G H G1 H1) (b : Up G1 H1 G2 H2) : Up G H G2 H2 :=
  ⟨a.gg.trans b.gg, b.gh, a.hh.trans b.hh, fun x h1 h2 => b.nw x (fun z => h1 (by
    cases q : H x with
    | none => rfl
    | some o => rw [a.hh x o q] at z; cases z)) (a.nw x h1 h2)⟩
/-- nothing new is data -/
theorem Up.same {G H H2 : Hp} (e : Ex G H) (h : Ex H H2) : Up G H G H2 := ⟨Ex.refl _, e.trans h, h, fun _ _ q => q⟩
theorem Up.lift {G Gw H G2 H2 : Hp} (u : Up G H G2 H2) (e1 : Ex G Gw) (e2 : Ex Gw H) : ∃ G3, Up Gw H G3 H2 ∧ Ex G2 G3 := by
  refine ⟨fun a => match H a with | none => G2 a | some _ => Gw a, ⟨fun a o h => ?_, fun a o h => ?_, u.hh, fun a h1 h2 => ?_⟩, fun a o h => ?_⟩
  · show (match H a with | none => G2 a | some _ => Gw a) = some o
    rw [e2 a o h]; exact h
  · have h' : (match H a with | none => G2 a | some _ => Gw a) = some o := h
    cases q : H a with
    | none => rw [q] at h'; exact u.gh a o h'
    | some o' =>
      rw [q] at h'
      exact u.hh a o (e2 a o h')
  · show (match H a with | none => G2 a | some _ => Gw a) = none
    cases q : H a with
    | none => exact absurd q h1
    | some o' => exact h2
  · show (match H a with | none => G2 a | some _ => Gw a) = some o
    cases q : H a with
    | none => exact h
    | some o' =>
      show Gw a = some o
      cases r : G a with
      | none => rw [u.nw a (by rw [q]; simp) r] at h; cases h
      | some o2 =>
        have := u.gg a o2 r
        rw [h] at this
        cases this
        exact e1 a _ r
/-! ### data as it stands in a heap -/
structure Rep (α : Type) where
  r : Hp → V → α → Prop
  mono : ∀ {H H' : Hp} {v : V} {x : α}, Ex H H' → r H v x → r H' v x
/-- told by the value alone -/
def Rep.Sc {α : Type} (R : Rep α) : Prop := ∀ {H H' : Hp} {v : V} {x : α}, R.r H v x → R.r H' v x

def rI : Rep Int := ⟨fun _ v x => v = .int x, fun _ h => h⟩
def rB : Rep Bool := ⟨fun _ v x => v = .bl x, fun _ h => h⟩
def rS : Rep Str := ⟨fun _ v x => v = .str x, fun _ h => h⟩
def rA : Rep Addr := ⟨fun _ v a => v = .ref a, fun _ h => h⟩
def rL {α : Type} (R : Rep α) : Rep (List α) := ⟨fun H v xs => ∃ a vs, v = .ref a ∧ H a = some (.lst vs) ∧ Paired (R.r H) vs xs,
  fun e ⟨a, vs, h1, h2, h3⟩ => ⟨a, vs, h1, e a _ h2, Paired.mapP h3 fun _ _ => R.mono e⟩⟩
/-- a tuple; its object may be told -/
theorem rd_up {H H' : Hp} {a : Addr} {u : HO} (e : Ex H H') (h : Rd H a u) : Rd H' a u := h.elim (fun h => .inl (e a _ h)) fun ⟨o, h⟩ => .inr ⟨o, e a _ h⟩
def rT {α : Type} (R : Rep α) : Rep (List α) := ⟨fun H v xs => ∃ a vs, v = .ref a ∧ Rd H a (.tup vs) ∧ Paired (R.r H) vs xs,
  fun e ⟨a, vs, h1, h2, h3⟩ => ⟨a, vs, h1, rd_up e h2, Paired.mapP h3 fun _ _ => R.mono e⟩⟩
def rP {α β : Type} (R : Rep α) (S : Rep β) : Rep (α × β) := ⟨fun H v p => ∃ a x y, v = .ref a ∧ H a = some (.tup [x, y]) ∧ R.r H x p.1 ∧ S.r H y p.2,
  fun e ⟨a, x, y, h1, h2, h3, h4⟩ => ⟨a, x, y, h1, e a _ h2, R.mono e h3, S.mono e h4⟩⟩
def rO {α : Type} (R : Rep α) : Rep (Option α) := ⟨fun H v o => match o with | none => v = .non | some x => R.r H v x,
  fun {H H' v o} e h => by cases o with | none => exact h | some x => exact R.mono e h⟩

/-! ### mirrors that may lack an answer -/
/-! ### expressions -/
/-- te reads as m: the data heap is G, W is known to stand as well (cells that are only read) -/
def E {α : Type} (te : TE) (σ : L2.St) (G W : Hp) (R : Rep α) (m : Option α) : Prop :=
  ∀ x, m = some x → ∀ H, Ex G H → Ex W H → ∀ Q : VK, (∀ v H2 G2, Up G H G2 H2 → R.r G2 v x → Q v H2) → te σ H Q
def ET (tt : TT) (σ : L2.St) (W : Hp) (m : Option Bool) : Prop :=
  ∀ b, m = some b → ∀ H, Ex W H → ∀ Q : Bool → Hp → Prop, (∀ H2, Ex H H2 → Q b H2) → tt σ H Q
structure AR (ι : Type) where
  r : Hp → List V → ι → Prop
  mono : ∀ {H H' : Hp} {v : List V} {x : ι}, Ex H H' → r H v x → r H' v x
def EA {ι : Type} (ta : TA) (σ : L2.St) (G W : Hp) (A : AR ι) (m : Option ι) : Prop :=
  ∀ x, m = some x → ∀ H, Ex G H → Ex W H → ∀ Q : List V → Hp → Prop, (∀ vs H2 G2, Up G H G2 H2 → A.r G2 vs x → Q vs H2) → ta σ H Q
section
variable {K : PySem.W.Frag} {σ : L2.St} {G H G' W W' : Hp} {ta tb te : TE} {t u : TT} {α β γ ι : Type} {R : Rep α} {S : Rep β} {T : Rep γ} {A : AR ι}
theorem E.mono {m : Option α} (e : Ex G G') (e' : Ex W W') (h : E te σ G W R m) : E te σ G' W' R m := fun x hx H e1 e2 Q q =>
  h x hx H (e.trans e1) (e'.trans e2) Q fun v H2 G2 up r => by
    obtain ⟨G3, u3, e3⟩ := up.lift e e1
    exact q v H2 G3 u3 (R.mono e3 r)
theorem ET.mono {m : Option Bool} (e : Ex W W') (h : ET t σ W m) : ET t σ W' m := fun x hx H e1 Q q => h x hx H (e.trans e1) Q q
theorem EA.mono {ta : TA} {m : Option ι} (e : Ex G G') (e' : Ex W W') (h : EA ta σ G W A m) : EA ta σ G' W' A m := fun x hx H e1 e2 Q q =>
  h x hx H (e.trans e1) (e'.trans e2) Q fun v H2 G2 up r => by
    obtain ⟨G3, u3, e3⟩ := up.lift e e1
    exact q v H2 G3 u3 (A.mono e3 r)
/-- a value that hangs on no heap -/
theorem E.s {m : Option α} (sc : R.Sc) (h : E te σ W W R m) : E te σ G W R m := fun x hx H e1 e2 Q q =>
  h x hx H e2 e2 Q fun v H2 G2 up r => q v H2 G (Up.same e1 up.hh) (sc r)
end
end Sim

namespace Sim
open PySem L2 Evl

/-! ### cells: objects that change -/
structure CP where
  p : Hp → HO → Prop
  mono : ∀ {G G' : Hp} {o : HO}, Ex G G' → p G o → p G' o
def cL {α : Type} (R : Rep α) (xs : List α) : CP := ⟨fun G o => ∃ vs, o = .lst vs ∧ Paired (R.r G) vs xs, fun e ⟨vs, h1, h2⟩ => ⟨vs, h1, Paired.mapP h2 fun _ _ => R.mono e⟩⟩
abbrev Cs := List (Addr × CP)
structure Wd (G H : Hp) (cs : Cs) : Prop where
  ex : Ex G H
  at_ : ∀ c ∈ cs, G c.1 = none ∧ ∃ o, H c.1 = some o ∧ c.2.p G o
  nd : (cs.map (·.1)).Nodup
theorem Wd.nil {G H : Hp} (e : Ex G H) : Wd G H [] := ⟨e, fun _ h => absurd h List.not_mem_nil, List.nodup_nil⟩
section
variable {G H G2 H2 : Hp} {cs : Cs} {l : Addr} {cp cp' : CP}
theorem Wd.head (w : Wd G H ((l, cp) :: cs)) : G l = none ∧ ∃ o, H l = some o ∧ cp.p G o := w.at_ _ (List.mem_cons_self ..)
theorem Wd.up (w : Wd G H cs) (u : Up G H G2 H2) : Wd G2 H2 cs := ⟨u.gh, fun c h => by
  obtain ⟨h1, o, h2, h3⟩ := w.at_ c h
  exact ⟨u.nw _ (by rw [h2]; simp) h1, o, u.hh _ _ h2, c.2.mono u.gg h3⟩, w.nd⟩
theorem Wd.sc (w : Wd G H cs) (u : Ex H H2) : Wd G H2 cs := w.up (Up.same w.ex u)
/-- a new cell is laid -/
theorem Wd.new (w : Wd G H cs) {o : HO} (n : H l = none) (h : cp.p G o) : Wd G (upd H l o) ((l, cp) :: cs) := by
  refine ⟨w.ex.mut (fresh_back w.ex n), fun c hc => ?_, ?_⟩
  · rcases List.mem_cons.mp hc with hc | hc
    · subst hc; exact ⟨fresh_back w.ex n, o, upd_same, h⟩
    · obtain ⟨h1, o', h2, h3⟩ := w.at_ c hc
      exact ⟨h1, o', by rw [upd_ne (ne_of_none h2 n)]; exact h2, h3⟩
  · show (l :: cs.map (·.1)).Nodup
    refine List.nodup_cons.mpr ⟨fun hm => ?_, w.nd⟩
    obtain ⟨c, hc, e⟩ := List.mem_map.mp hm
    obtain ⟨_, o', h2, _⟩ := w.at_ c hc
    exact ne_of_none h2 n e
end
/-! ### promises -/
/-- cells change -/
structure Fr (G H G2 H2 : Hp) (ls : List Addr) : Prop where
  gg : Ex G G2
  fr : ∀ a o, H a = some o → a ∉ ls → H2 a = some o
  nw : ∀ a, H a ≠ none → G a = none → G2 a = none
  st : ∀ a, H a ≠ none → H2 a ≠ none
theorem Fr.refl {G H : Hp} {ls : List Addr} : Fr G H G H ls := ⟨Ex.refl _, fun _ _ h _ => h, fun _ _ h => h, fun _ h => h⟩
theorem some_ne {H H2 : Hp} (e : Ex H H2) {a : Addr} (h : H a ≠ none) : H2 a ≠ none := by
  cases q : H a with
  | none => exact absurd q h
  | some o => rw [e a o q]; simp
theorem Up.fr {G H G2 H2 : Hp} {ls : List Addr} (u : Up G H G2 H2) : Fr G H G2 H2 ls := ⟨u.gg, fun a o h _ => u.hh a o h, u.nw, fun a h => some_ne u.hh h⟩
theorem Fr.trans {G H G1 H1 G2 H2 : Hp} {ls : List Addr} (a : Fr G H G1 H1 ls) (b : Fr G1 H1 G2 H2 ls) : Fr G H G2 H2 ls :=
  ⟨a.gg.trans b.gg, fun x o h1 h2 => b.fr x o (a.fr x o h1 h2) h2, fun x h1 h2 => b.nw x (a.st x h1) (a.nw x h1 h2), fun x h => b.st x (a.st x h)⟩
end Sim

namespace Sim
open PySem L2 Evl
section
variable {K : PySem.W.Frag} {σ : L2.St} {G H G' W W' : Hp} {ta tb te tc : TE} {t u : TT} {α β γ ι κ : Type} {R : Rep α} {S : Rep β} {T : Rep γ} {A : AR ι}

/-! ### mirrors of operations that may lack an answer -/
/-! ### and, or, not, if -/
/-! ### arguments, calls -/
/-- an expression that makes a new list -/
def EL (te : TE) (σ : L2.St) (G W : Hp) (R : Rep α) (m : Option (List α)) : Prop :=
  ∀ xs, m = some xs → ∀ H, Ex G H → Ex W H → ∀ Q : VK, (∀ p H2 G2, H p = none → Up G H G2 H2 → Wd G2 H2 [(p, cL R xs)] → Q (.ref p) H2) → te σ H Q
theorem Up.frz {G H G1 H1 G2 : Hp} {p : Addr} (hp : H p = none) (u : Up G H G1 H1) (e : Ex G1 G2) (e2 : Ex G2 H1) (n : ∀ a, a ≠ p → G1 a = none → G2 a = none) : Up G H G2 H1 :=
  ⟨u.gg.trans e, e2, u.hh, fun a h1 h2 => n a (fun z => by subst z; exact h1 hp) (u.nw a h1 h2)⟩
theorem frz1 {G H G1 H1 : Hp} {p : Addr} {xs : List α} (hp : H p = none) (u : Up G H G1 H1) (w : Wd G1 H1 [(p, cL R xs)]) : ∃ G2, Up G H G2 H1 ∧ (rL R).r G2 (.ref p) xs := by
  obtain ⟨h1, o, h2, vs, rfl, h3⟩ := w.head
  refine ⟨upd G1 p (.lst vs), u.frz hp (Ex.new h1) (fun a u' e => ?_) (fun a ne h => by rw [upd_ne ne]; exact h), p, vs, rfl, upd_same, Paired.mapP h3 fun _ _ => R.mono (Ex.new h1)⟩
  by_cases q : a = p
  · subst q; rw [upd_same] at e; cases e; exact h2
  · rw [upd_ne q] at e; exact w.ex a u' e
theorem EL.e {m : Option (List α)} (h : EL te σ G W R m) : E te σ G W (rL R) m := fun x hx H e e' Q q => h x hx H e e' Q fun p H2 G2 hp u w => by
  obtain ⟨G3, u3, r3⟩ := frz1 hp u w
  exact q _ H2 G3 u3 r3
theorem Wd.lift {Gw G2 : Hp} {H : Hp} {cs : Cs} (w : Wd G2 H cs) (e : Ex G2 Gw) (e2 : Ex Gw H) (n : ∀ c ∈ cs, Gw c.1 = none) : Wd Gw H cs := ⟨e2, fun c h => by
  obtain ⟨h1, o, h2, h3⟩ := w.at_ c h
  exact ⟨n c h, o, h2, c.2.mono e h3⟩, w.nd⟩
theorem Up.lift' {G Gw H G2 H2 : Hp} (u : Up G H G2 H2) (e1 : Ex G Gw) (e2 : Ex Gw H) : ∃ G3, Up Gw H G3 H2 ∧ Ex G2 G3 ∧ ∀ a, H a = none → G2 a = none → G3 a = none := by
  refine ⟨fun a => match H a with | none => G2 a | some _ => Gw a, ⟨fun a o h => ?_, fun a o h => ?_, u.hh, fun a h1 h2 => ?_⟩, fun a o h => ?_, fun a h1 h2 => ?_⟩
  · show (match H a with | none => G2 a | some _ => Gw a) = some o
    rw [e2 a o h]; exact h
  · have h' : (match H a with | none => G2 a | some _ => Gw a) = some o := h
    cases q : H a with
    | none => rw [q] at h'; exact u.gh a o h'
    | some o' =>
      rw [q] at h'
      exact u.hh a o (e2 a o h')
  · show (match H a with | none => G2 a | some _ => Gw a) = none
    cases q : H a with
    | none => exact absurd q h1
    | some o' => exact h2
  · show (match H a with | none => G2 a | some _ => Gw a) = some o
    cases q : H a with
    | none => exact h
    | some o' =>
      show Gw a = some o
      cases r : G a with
      | none => rw [u.nw a (by rw [q]; simp) r] at h; cases h
      | some o2 =>
        have := u.gg a o2 r
        rw [h] at this
        cases this
        exact e1 a _ r
  · show (match H a with | none => G2 a | some _ => Gw a) = none
    rw [h1]; exact h2
theorem EL.mono {m : Option (List α)} (e : Ex G G') (e' : Ex W W') (h : EL te σ G W R m) : EL te σ G' W' R m := fun x hx H e1 e2 Q q => h x hx H (e.trans e1) (e'.trans e2) Q fun p H2 G2 hp u w => by
  obtain ⟨G3, u3, e3, n3⟩ := u.lift' e e1
  exact q p H2 G3 hp u3 (w.lift e3 u3.gh fun c hc => by
    cases List.mem_singleton.mp hc
    exact n3 p hp w.head.1)
/-! ### built-ins -/
def sz (n : Nat) : Bool := decide (n < 100000)
/-! ### displays -/
end
end Sim

namespace Sim
open PySem L2 Evl

/-! ### mirrors of loops -/
section
variable {α σ ρ : Type}
end
/-! ### the world of a def -/
structure Wo (G0 H0 : Hp) (ls : List Addr) (G H : Hp) (cs : Cs) : Prop where
  w : Wd G H cs
  f : Fr G0 H0 G H ls
  lo : ∀ c ∈ cs, c.1 ∈ ls ∨ H0 c.1 = none
section
variable {K : PySem.W.Frag} {σ : L2.St} {G0 H0 G H G2 H2 : Hp} {ls : List Addr} {cs : Cs} {l : Addr} {cp cp' : CP} {ta tb te tc : TE} {t u : TT} {α β γ ι κ : Type} {R : Rep α} {S : Rep β} {T : Rep γ} {A : AR ι}
theorem Wo.ex (w : Wo G0 H0 ls G H cs) : Ex G H := w.w.ex
theorem Wo.up (w : Wo G0 H0 ls G H cs) (u : Up G H G2 H2) : Wo G0 H0 ls G2 H2 cs := ⟨w.w.up u, w.f.trans u.fr, w.lo⟩
theorem Wo.sc (w : Wo G0 H0 ls G H cs) (u : Ex H H2) : Wo G0 H0 ls G H2 cs := w.up (Up.same w.ex u)
/-- the i-th cell -/
theorem Wd.getAt {i : Nat} (w : Wd G H cs) (h : cs[i]? = some (l, cp)) : G l = none ∧ ∃ o, H l = some o ∧ cp.p G o := w.at_ _ (List.mem_of_getElem? h)
theorem nodup_ix {as : List Addr} (nd : as.Nodup) {i j : Nat} {x : Addr} (h1 : as[i]? = some x) (h2 : as[j]? = some x) : i = j := by
  obtain ⟨a1, a2⟩ := List.getElem?_eq_some_iff.mp h1
  obtain ⟨b1, b2⟩ := List.getElem?_eq_some_iff.mp h2
  have p := List.pairwise_iff_getElem.mp nd
  rcases Nat.lt_trichotomy i j with q | q | q
  · exact absurd (a2.trans b2.symm) (p i j a1 b1 q)
  · exact q
  · exact absurd (b2.trans a2.symm) (p j i b1 a1 q)
theorem Fr.put (f : Fr G0 H0 G H ls) {o : HO} (h : l ∈ ls ∨ H0 l = none) : Fr G0 H0 G (upd H l o) ls := ⟨f.gg, fun a u h1 h2 => by
  have ne : a ≠ l := fun z => by
    subst z
    rcases h with h | h
    · exact h2 h
    · rw [h] at h1; cases h1
  rw [upd_ne ne]; exact f.fr a u h1 h2, f.nw, fun a h1 => by
  by_cases q : a = l
  · subst q; rw [upd_same]; simp
  · rw [upd_ne q]; exact f.st a h1⟩
theorem Wo.new (w : Wo G0 H0 ls G H cs) {o : HO} (n : H l = none) (h : cp.p G o) : Wo G0 H0 ls G (upd H l o) ((l, cp) :: cs) := by
  have n0 : H0 l = none := by
    cases q : H0 l with
    | none => rfl
    | some o => exact absurd n (w.f.st l (by rw [q]; simp))
  exact ⟨w.w.new n h, w.f.put (.inr n0), fun c hc => by
    rcases List.mem_cons.mp hc with hc | hc
    · subst hc; exact .inr n0
    · exact w.lo c hc⟩
end
end Sim

namespace Sim
open PySem L2 Evl
section
variable {K : PySem.W.Frag} {σ : L2.St} {G0 H0 G H G2 H2 W : Hp} {ls : List Addr} {cs : Cs} {l : Addr} {cp cp' : CP} {ta tb te tc : TE} {t u : TT} {α β γ ι κ : Type} {R : Rep α} {S : Rep β} {T : Rep γ} {A : AR ι} {D : Ends} {tu tv tz : TS} {g : TG}

/-! ### expressions in the world -/
/-! ### a def that changes one cell -/
/-! ### readings opened -/
/-! ### statements -/
/-! ### list cells, by methods -/
/-! ### loops -/
end
end Sim

namespace Sim
open PySem L2 Evl
section
variable {α β : Type}
end
section
variable {K : PySem.W.Frag} {σ : L2.St} {G H W : Hp} {te tl : TE} {tt : TT} {α β γ : Type} {R : Rep α} {S : Rep β} {T : Rep γ}
end
end Sim

namespace Sim
open PySem L2 Evl
section
variable {K : PySem.W.Frag} {σ : L2.St} {G0 H0 G H G2 H2 W : Hp} {ls : List Addr} {cs : Cs} {l : Addr} {cp cp' : CP} {ta tb te tc : TE} {t u : TT} {α β γ ι κ : Type} {R : Rep α} {S : Rep β} {T : Rep γ} {A : AR ι} {D : Ends} {tu tv tz : TS} {g : TG}
theorem E.is {m : Option α} {x : α} (h : E te σ G W R m) (hm : m = some x) : E te σ G W R (some x) := by rw [← hm]; exact h
theorem ET.is {m : Option Bool} {x : Bool} (h : ET t σ W m) (hm : m = some x) : ET t σ W (some x) := by rw [← hm]; exact h
theorem EL.is {m : Option (List α)} {x : List α} (h : EL te σ G W R m) (hm : m = some x) : EL te σ G W R (some x) := by rw [← hm]; exact h
/-- items of one kind -/
def EAL (n : Nat) (ta : TA) (σ : L2.St) (G W : Hp) (R : Rep α) (m : Option (List α)) : Prop :=
  ∀ xs, m = some xs → xs.length = n ∧ ∀ H, Ex G H → Ex W H → ∀ Q : List V → Hp → Prop, (∀ vs H2 G2, Up G H G2 H2 → Paired (R.r G2) vs xs → Q vs H2) → ta σ H Q
theorem EAL.mono {n : Nat} {G' W' : Hp} {ta : TA} {m : Option (List α)} (e : Ex G G') (e' : Ex W W') (h : EAL n ta σ G W R m) : EAL n ta σ G' W' R m := fun x hx => ⟨(h x hx).1, fun H e1 e2 Q q =>
  (h x hx).2 H (e.trans e1) (e'.trans e2) Q fun v H2 G2 up r => by
    obtain ⟨G3, u3, e3⟩ := up.lift e e1
    exact q v H2 G3 u3 (Paired.mapP r fun _ _ => R.mono e3)⟩
/-! ### cuts, tests opened -/
end
end Sim

namespace Sim
open PySem L2 Evl
section
variable {K : PySem.W.Frag} {σ : L2.St} {G0 H0 G H G2 H2 W : Hp} {ls : List Addr} {cs : Cs} {l : Addr} {cp cp' : CP} {ta tb te tc : TE} {t u : TT} {α β γ ι κ : Type} {R : Rep α} {S : Rep β} {T : Rep γ} {A : AR ι} {D : Ends} {tu tv tz : TS} {g : TG}
theorem cl_sc {xs : List α} (h : R.Sc) {o : HO} (q : (cL R xs).p G o) : (cL R xs).p G2 o := by
  obtain ⟨vs, e, p⟩ := q
  exact ⟨vs, e, Paired.mapP p fun _ _ r => h r⟩
theorem EL.s {m : Option (List α)} (sc : R.Sc) (h : EL te σ W W R m) : EL te σ G W R m := fun xs hx H e e' Q q => h xs hx H e' e' Q fun p H2 G2 hp u w => by
  obtain ⟨h1, o, h2, h3⟩ := w.head
  exact q p H2 G hp (Up.same e u.hh) ⟨e.trans u.hh, fun c hc => by
    rw [List.mem_singleton.mp hc]
    exact ⟨fresh_back e hp, o, h2, cl_sc sc h3⟩, List.nodup_cons.mpr ⟨List.not_mem_nil, List.nodup_nil⟩⟩
end
/-! ### the text's facts -/
structure Tx (fa : List He.Fa) (fn : List He.DefD) (K : PySem.W.Frag) (mg : Str → Option Value) : Prop where
  ex : ∃ h : Heap, K.In h ∧ h.Ns mainGlobals mg
  c : He.SaysD fa fn K
section
variable {fa : List He.Fa} {fn : List He.DefD} {K : PySem.W.Frag} {mg : Str → Option Value} {P : Program} {w : World} {base : Heap}
theorem Tx.glo (T : Tx fa fn K mg) (i : Nat) {x : Str} (h : fa[i]? = some (.glo x)) : mg x = some (.ref (He.ga K x)) := by
  obtain ⟨h', X, G⟩ := T.ex
  exact He.glo_ok X G (T.c.fact i h)
theorem Tx.free (T : Tx fa fn K mg) (i : Nat) {x : Str} (h : fa[i]? = some (.free x)) : mg x = none := by
  obtain ⟨h', X, G⟩ := T.ex
  exact He.free_ok X G (T.c.fact i h)
theorem Tx.cls (T : Tx fa fn K mg) (i : Nat) {x : Str} (h : fa[i]? = some (.cls x)) : Cls K (He.ga K x) := He.cls_ok (T.c.fact i h)
theorem Tx.mkr (T : Tx fa fn K mg) (i : Nat) {x : Str} (h : fa[i]? = some (.mkr x)) : Mk K (He.ga K x) (He.ma K (He.ga K x) "__init__") := He.mkr_ok (T.c.fact i h)
end
end Sim

namespace Sim
open PySem L2 Evl
/-! ### the hook: facts, defs, and further Bools -/
structure TxE (fa : List He.Fa) (fn : List He.DefD) (es : List (PySem.W.Frag → Bool)) (K : PySem.W.Frag) (mg : Str → Option Value) : Prop extends Tx fa fn K mg where
  x : (es.all fun e => e K) = true
/-! ### objects -/
structure Pd where
  p : Hp → V → Prop
  mono : ∀ {H H' : Hp} {v : V}, Ex H H' → p H v → p H' v
def Fl (ns : List Str) (ps : List Pd) (H : Hp) (fs : List (Str × V)) : Prop := fs.map (·.1) = ns ∧ Paired (fun v (q : Pd) => q.p H v) (fs.map (·.2)) ps
theorem Fl.mono {ns : List Str} {ps : List Pd} {H H' : Hp} {fs : List (Str × V)} (e : Ex H H') (h : Fl ns ps H fs) : Fl ns ps H' fs := ⟨h.1, Paired.mapP h.2 fun _ q => q.mono e⟩
def rObj {α : Type} (C : Addr) (ns : List Str) (fl : α → List Pd) : Rep α := ⟨fun H v x => ∃ a dx fs, v = .ref a ∧ H a = some (.ins C dx fs) ∧ Fl ns (fl x) H fs, fun e ⟨a, dx, fs, h1, h2, h3⟩ => ⟨a, dx, fs, h1, e a _ h2, h3.mono e⟩⟩
def cI (C : Addr) (ns : List Str) (ps : List Pd) : CP := ⟨fun G o => ∃ dx fs, o = .ins C dx fs ∧ Fl ns ps G fs, fun e ⟨dx, fs, h1, h2⟩ => ⟨dx, fs, h1, h2.mono e⟩⟩
section
variable {K : PySem.W.Frag} {σ : L2.St} {G0 H0 G H G2 H2 W : Hp} {ls : List Addr} {cs : Cs} {l C : Addr} {cp cp' : CP} {ta tb te tc to : TE} {t u : TT} {α β γ ι κ : Type} {R : Rep α} {S : Rep β} {T : Rep γ} {A : AR ι} {D : Ends} {tu tv tz : TS} {g : TG} {ns : List Str} {fl : α → List Pd}
/-! ### isinstance, the kind known -/
/-! ### == of data -/
end
end Sim

namespace Sim
open PySem L2 Evl
section
variable {K : PySem.W.Frag} {σ : L2.St} {G0 H0 G H G2 H2 W : Hp} {ls : List Addr} {cs : Cs} {l C : Addr} {cp cp' : CP} {ta tb te tc to : TE} {t u : TT} {α β γ ι κ : Type} {R : Rep α} {S : Rep β} {T : Rep γ} {A : AR ι} {D : Ends} {tu tv tz : TS} {g : TG} {ns : List Str} {fl : α → List Pd}
/-! ### a list lent to a def that only reads it -/
/-- at l, its items standing in the data heap, it itself not -/
structure Lent (G W : Hp) (l : Addr) (B : Rep κ) (ys : List κ) : Prop where
  n : G l = none
  at_ : ∃ vs, W l = some (.lst vs) ∧ Paired (B.r G) vs ys
theorem Lent.up {B : Rep κ} {ys : List κ} {G1 H1 H : Hp} (L : Lent G W l B ys) (e' : Ex W H) (u : Up G H G1 H1) : Lent G1 H1 l B ys := by
  obtain ⟨vs, h2, h3⟩ := L.at_
  exact ⟨u.nw _ (by rw [e' _ _ h2]; simp) L.n, vs, u.hh _ _ (e' _ _ h2), Paired.mapP h3 fun _ _ => B.mono u.gg⟩
theorem Lent.ne {B : Rep κ} {ys : List κ} {x : Addr} {ps : List Pd} (L : Lent G H l B ys) (w : Wd G H [(x, cI C ns ps)]) : l ∉ [x] := fun z => by
  obtain ⟨vs, h2, _⟩ := L.at_
  obtain ⟨_, o, k2, dx, fs, rfl, _⟩ := w.head
  rw [List.mem_singleton.mp z, k2] at h2
  cases h2
end
/-! ### a method by its name, with its promise -/
/-! ### data that is compared -/
section
variable {α β : Type} {R : Rep α} {S : Rep β}
end
end Sim
namespace Sim
open PySem L2 Evl
section
variable {K : PySem.W.Frag} {σ : L2.St} {G0 H0 G H G2 H2 W : Hp} {ls : List Addr} {cs : Cs} {l C : Addr} {te : TE} {α β : Type} {R : Rep α} {S : Rep β} {ns : List Str}
end
end Sim

set_option maxHeartbeats 4000000
/-! own exceptions: an __init__ whose first statement is super().__init__(text) -/
namespace Sim
open PySem PySem.Spec PyProof.Rows L2 PySem.W PySem.Calls NdefX
/-- what the written part says of such an __init__ -/
structure SupC (P : Program) (K : Frag) (mg : Str → Option Value) (C f : Addr) (fd : FuncData) (F : NF) (ps : List Str) : Prop where
  lk : ∃ oc od osl kV doc pm an ct, fd = PySem.W.fnX F.name F.qual F.params F.body F.scope F.cl .none kV doc pm an (.ref F.c) ct ∧ K.lookup f = some ⟨oc, od, .func fd, osl⟩
  cd : PySem.W.codeIn K (.ref F.c) F.qual = true
  cl : ∃ cc oc od osl, F.cl = [(("__class__" : Str), cc)] ∧ K.lookup cc = some ⟨oc, od, .cell (some (.ref C)), osl⟩
  par : ∃ ar ps', (F.params.posonlyargs ++ F.params.args).head? = some ar ∧ ps = ar.arg :: ps' ∧ F.scope.names.lookup ar.arg = some .local
  code : ∃ ccl cdd vs ccs file tf, K.lookup F.c = some ⟨ccl, cdd, .fields vs, ccs⟩ ∧ vs[2]? = some (.str file tf) ∧ ((P.main.file : Str) == file) = true
  cls : ∃ cdD, clsIn K C = some cdD
  sub : mroIn K C (.ref C) = some true
  ks : F.scope.names.lookup ("super" : Str) = some .globalImplicit
  kc : F.scope.names.lookup ("__class__" : Str) = some .free
  mg : mg "super" = none
  top : (P.main.scope.names.lookup ("super" : Str)).isSome = false
  opq : nsIn K cStatics "thirdparty.any" = some none
  sup : ks_superIn K C C "__init__" = some (some (.builtin "ValueError.__init__"))
  ve : subIn K (.ref C) (.type "ValueError") = some true
  ex : OexC K C
section
variable {CX : CXT} {P : Program} {w : World} {K : PySem.W.Frag} {mg : Str → Option Value} {base : Heap} {N ps : List Str} {F : NF} {C f : Addr} {fd : FuncData} {k : Nat} {sp : Sp} {t : Str} {rest : List Stmt} {p0 p1 p2 p3 p4 pc : Pos} {j : Nat} {pl : Sem Bool}
end
end Sim

/-! own exceptions: what the top's end says of them -/
namespace Sim
open PySem PySem.Spec PyProof.Rows L2 PySem.W PySem.Calls NdefX
def oexB (K : Frag) (C : Addr) : Bool := (match K.lookup C with
  | some ⟨.type "type", _, .cls cd, sl⟩ => (match cd.mro, sl.toList with
    | .ref C' :: bm, [_, _, _, _, some (.builtin n), _] => C' == C && n == "ValueError.__new__" && !cd.hasDel && PySem.HandSPX.refsVE bm && cd.hasDict
    | _, _ => false)
  | _ => false) && (decide (findIn K (.ref C) "__setattr__" = some (some (.builtin "object.__setattr__"))) && (decide (subIn K (.ref C) (.type "BaseException") = some true) && (decide (typeIn K (.ref C) = some (.type "type")) && keepIn K (.ref C))))
theorem oexB_ok {K : Frag} {C : Addr} (h : oexB K C = true) : OexC K C := by
  unfold oexB at h
  obtain ⟨q, h⟩ := He.ba h
  obtain ⟨h1, h⟩ := He.ba h
  obtain ⟨h2, h⟩ := He.ba h
  obtain ⟨h3, h4⟩ := He.ba h
  refine ⟨?_, of_decide_eq_true h1, of_decide_eq_true h2, of_decide_eq_true h3, h4⟩
  split at q
  · rename_i dd cd sl ho
    split at q
    · rename_i C' bm k0 k1 k2 k3 n k5 hm hs
      simp only [Bool.and_eq_true, beq_iff_eq, Bool.not_eq_true'] at q
      obtain ⟨⟨⟨⟨rfl, rfl⟩, hdel⟩, ht⟩, hdict⟩ := q
      obtain ⟨nm, bs, mro, ns, qn, hd, sn, sub, ab, col, del⟩ := cd
      dsimp only at hm hdel hdict
      subst hm hdel hdict
      have hsl : sl = #[k0, k1, k2, k3, some (.builtin "ValueError.__new__"), k5] := by
        rw [← Array.toArray_toList (xs := sl), hs]
      subst hsl
      exact ⟨nm, qn, ns, bs, bm, sn, sub, ab, col, dd, k0, k1, k2, k3, k5, ho, ht⟩
    · cases q
  · cases q
/-- an own __init__ of an exception class: what is looked at -/
abbrev FnY : Type := Option (Str × Arguments × FuncBody × Scope × Addr × List Str × Addr)
structure XcD where
  cls : Str
  qual : Str
  params : Arguments
  body : List Stmt
  scope : Scope
def xcAd (K : Frag) (x : Str) : Addr := He.ma K (He.ga K x) "__init__"
def fnY (K : Frag) (x : Str) : FnY := match K.lookup (xcAd K x) with
  | some ⟨_, _, .func fd, _⟩ => some (fd.qualname, fd.params, fd.body, fd.scope, fd.globals, fd.closure.map (·.1), fd.builtins)
  | _ => none
def XcD.val (d : XcD) : FnY := some (d.qual, d.params, .stmts d.body, d.scope, mainGlobals, ["__class__"], builtinsNs)
def XcD.fdB (K : Frag) (file : Str) (d : XcD) : Bool := match K.lookup (xcAd K d.cls) with
  | some ⟨_, _, .func fd, _⟩ => (match fd.closure with
    | [(_, cc)] => (match K.lookup cc with
      | some ⟨_, _, .cell (some (.ref D)), _⟩ => D == He.ga K d.cls
      | _ => false)
    | _ => false) && (match fd.code with
    | .ref cda => codeIn K (.ref cda) d.qual && (match K.lookup cda with
      | some ⟨_, _, .fields vs, _⟩ => (match (vs[2]? : Option Value) with
        | some (.str fl _) => fl == file
        | _ => false)
      | _ => false)
    | _ => false) && (decide (fd.name = ("__init__" : Str)) && (match fd.defaults with
    | .none => true
    | _ => false))
  | _ => false
def XcD.ok (K : Frag) (file : Str) (d : XcD) : Bool := d.fdB K file && (oexB K (He.ga K d.cls) && ((clsIn K (He.ga K d.cls)).isSome && (decide (mroIn K (He.ga K d.cls) (.ref (He.ga K d.cls)) = some true) &&
  (decide (nsIn K cStatics "thirdparty.any" = some none) && (decide (ks_superIn K (He.ga K d.cls) (He.ga K d.cls) "__init__" = some (some (.builtin "ValueError.__init__"))) && (decide (subIn K (.ref (He.ga K d.cls)) (.type "ValueError") = some true) &&
  (decide (findIn K (.ref (He.ga K d.cls)) "__init__" = some (some (.ref (xcAd K d.cls)))) && decide (typeIn K (.ref (xcAd K d.cls)) = some (.type "function")))))))))
/-- what is known of the class -/
structure XcK (P : Program) (K : Frag) (mg : Str → Option Value) (d : XcD) : Prop where
  ex : ∃ fd cc c, SupC P K mg (He.ga K d.cls) (xcAd K d.cls) fd ⟨"__init__", d.qual, d.params, d.body, d.scope, [("__class__", cc)], c⟩ ((d.params.posonlyargs ++ d.params.args).map (·.arg))
  oex : OexC K (He.ga K d.cls)
  ini : findIn K (.ref (He.ga K d.cls)) "__init__" = some (some (.ref (xcAd K d.cls)))
  ty : typeIn K (.ref (xcAd K d.cls)) = some (.type "function")
theorem XcD.known {P : Program} {K : Frag} {mg : Str → Option Value} {d : XcD} (e : fnY K d.cls = d.val) (c : d.ok K P.main.file = true) (hmg : mg "super" = none) (htop : (P.main.scope.names.lookup ("super" : Str)).isSome = false)
    (hks : d.scope.names.lookup ("super" : Str) = some .globalImplicit) (hkc : d.scope.names.lookup ("__class__" : Str) = some .free) {ar : Arg} {ars : List Arg} (hpa : d.params.posonlyargs ++ d.params.args = ar :: ars) (hka : d.scope.names.lookup ar.arg = some .local) : XcK P K mg d := by
  unfold XcD.ok at c
  obtain ⟨c0, c⟩ := He.ba c
  obtain ⟨c1, c⟩ := He.ba c
  obtain ⟨c2, c⟩ := He.ba c
  obtain ⟨c3, c⟩ := He.ba c
  obtain ⟨c4, c⟩ := He.ba c
  obtain ⟨c5, c⟩ := He.ba c
  obtain ⟨c6, c⟩ := He.ba c
  obtain ⟨c7, c8⟩ := He.ba c
  refine ⟨?_, oexB_ok c1, of_decide_eq_true c7, of_decide_eq_true c8⟩
  unfold XcD.fdB at c0
  unfold fnY at e
  cases q : K.lookup (xcAd K d.cls) with
  | none => rw [q] at c0; cases c0
  | some o =>
    obtain ⟨oc, od, dt, osl⟩ := o
    rw [q] at c0 e
    cases dt with
    | func fd =>
      obtain ⟨n1, n2, n3, n4, n5, n6, n7, n8, n9, n10, n11, n12, n13, n14, n15⟩ := fd
      have e2 : (some (n2, n3, n4, n5, n6, n7.map (·.1), n15) : FnY) = (some (d.qual, d.params, .stmts d.body, d.scope, mainGlobals, ["__class__"], builtinsNs) : FnY) := e
      simp only [Option.some.injEq, Prod.mk.injEq] at e2
      obtain ⟨h2, h3, h4, h5, h6, h7, h8⟩ := e2
      subst h2 h3 h4 h5 h6 h8
      dsimp only at c0
      obtain ⟨kab, kc⟩ := He.ba c0
      obtain ⟨kA, kB⟩ := He.ba kab
      obtain ⟨kc, kd⟩ := He.ba kc
      have kc := of_decide_eq_true kc
      subst kc
      clear kab c0
      have kd2 : n8 = Value.none := by
        cases n8 with
        | none => rfl
        | _ => cases kd
      subst kd2
      cases n7 with
      | nil => cases h7
      | cons p r =>
        cases r with
        | cons _ _ => simp at h7
        | nil =>
          obtain ⟨nm, cc⟩ := p
          have hn : nm = ("__class__" : Str) := by
            simp only [List.map_cons, List.map_nil, List.cons.injEq, and_true] at h7
            exact h7
          subst hn
          dsimp only at kA
          cases n13 with
          | ref cda =>
            dsimp only at kB
            obtain ⟨k4, k5⟩ := He.ba kB
            cases qc : K.lookup cc with
            | none => rw [qc] at kA; cases kA
            | some oc2 =>
              obtain ⟨a1, a2, a3, a4⟩ := oc2
              rw [qc] at kA
              cases a3 with
              | cell v =>
                cases v with
                | none => cases kA
                | some v =>
                  cases v with
                  | ref D =>
                    have hD : D = He.ga K d.cls := eq_of_beq kA
                    subst hD
                    cases qd : K.lookup cda with
                    | none => rw [qd] at k5; cases k5
                    | some od2 =>
                      obtain ⟨b1, b2, b3, b4⟩ := od2
                      rw [qd] at k5
                      cases b3 with
                      | fields vs =>
                        dsimp only at k5
                        cases qv : vs[2]? with
                        | none => rw [qv] at k5; cases k5
                        | some v2 =>
                          rw [qv] at k5
                          cases v2 with
                          | str fl tf =>
                            have hfl : fl = P.main.file := eq_of_beq k5
                            subst hfl
                            obtain ⟨cdD, hcd⟩ := Option.isSome_iff_exists.mp c2
                            exact ⟨_, cc, cda, ⟨oc, od, osl, n9, n10, n11, n12, n14, rfl, q⟩, k4, ⟨cc, a1, a2, a4, rfl, qc⟩, ⟨ar, ars.map (·.arg), by rw [hpa]; rfl, by rw [hpa]; rfl, hka⟩, ⟨b1, b2, vs, b4, P.main.file, tf, qd, qv, by simp⟩, ⟨cdD, hcd⟩,
                              of_decide_eq_true c3, hks, hkc, hmg, htop, of_decide_eq_true c4, of_decide_eq_true c5, of_decide_eq_true c6, oexB_ok c1⟩
                          | _ => cases k5
                      | _ => cases k5
                  | _ => cases kA
              | _ => cases kA
          | _ => cases kB
    | _ => cases c0
end Sim

/-! own exceptions raised: their mirrors and promises -/
namespace Sim
open PySem PySem.Spec PyProof.Rows L2 Evl NdefX
/-- an exception's field: data -/
inductive Xv where
  | int (i : Int)
  | str (s : Str)
  | txs (l : List Str)
  | bl (b : Bool)
  | recd (n : Str) (as : List (Str × Int)) (r : Int)
  | adr (a : Addr)
deriving DecidableEq
/-- a record that an exception holds -/
def rRc (K : PySem.W.Frag) : Rep (Str × List (Str × Int) × Int) := ⟨fun H v x => ∃ a dx vs, v = .ref a ∧ H a = some (SlX.SlO a (He.ga K "Record") dx vs) ∧ H dx = some (.xd []) ∧
  (∃ u, vs[1]? = some (some u) ∧ rS.r H u x.1) ∧ (∃ u, vs[0]? = some (some u) ∧ (rT (rP rS rI)).r H u x.2.1) ∧ ∃ u, vs[2]? = some (some u) ∧ rI.r H u x.2.2,
  fun e ⟨a, dx, vs, h1, h2, h3, ⟨u, k1, k2⟩, ⟨u', k3, k4⟩, u'', k5, k6⟩ => ⟨a, dx, vs, h1, e a _ h2, e dx _ h3, ⟨u, k1, rS.mono e k2⟩, ⟨u', k3, (rT (rP rS rI)).mono e k4⟩, u'', k5, rI.mono e k6⟩⟩
def rX (K : PySem.W.Frag) : Rep Xv := ⟨fun H v x => match x with
  | .int i => v = .int i
  | .str s => v = .str s
  | .txs l => (rT rS).r H v l
  | .bl b => v = .bl b
  | .recd n as r => (rRc K).r H v (n, as, r)
  | .adr a => v = .ref a, fun {_ _ v x} e h => by
    cases x with
    | int _ => exact h
    | str _ => exact h
    | txs _ => exact (rT rS).mono e h
    | bl _ => exact h
    | recd _ _ _ => exact (rRc K).mono e h
    | adr _ => exact h⟩
structure Xn where
  cls : Str
  fs : List (Str × Xv)
/-- its dict at d -/
def Xat (K : PySem.W.Frag) (G : Hp) (e : Xn) (d : Option Addr) : Prop := match d with
  | some d => ∃ fs, G d = some (.xd fs) ∧ ∀ f x, e.fs.lookup f = some x → ∃ v, fs.lookup f = some v ∧ (rX K).r G v x
  | none => e.fs = []
section
variable {K : PySem.W.Frag} {σ : L2.St} {G H G0 H0 : Hp} {ls : List Addr} {cs : Cs} {ta : TA} {ι : Type} {A : AR ι}
end
end Sim

/-! the __init__ of an own exception, walked -/
namespace Sim
open PySem PySem.Spec PyProof.Rows L2 Evl NdefX
section
variable {K : PySem.W.Frag} {σ : L2.St} {H : Hp} {a C dx : Addr} {D : Ends}
end
section
variable {CX : CXT} {P : Program} {w : World} {K : PySem.W.Frag} {mg : Str → Option Value} {base : Heap} {N ps : List Str} {F : NF} {C f : Addr} {fd : FuncData} {k : Nat} {t : Str} {rest : List Stmt} {p0 p1 p2 p3 p4 pc : Pos} {j : Nat} {pl : Sem Bool} {names : List Str} {fi : List (Str × Nat)}
end
end Sim

/-! calls that may raise, at the caller's slots; try -/
namespace L2
open PySem PySem.Spec PyProof.Rows
section
variable {X : Cx} {CX : CXT} {k : Nat} {f C : Addr} {fd : FuncData} {ps : List Str} {sp : Sp} {E : St → XK} {x m : Str} {p pos apos : Pos} {e o : Expr} {es : List Expr} {ta : TE} {t : TA}
end
/-- several clauses, each with a name -/
def wManyA (K : PySem.W.Frag) (Wout : WX) (D : Ends) : List (Value × Option Nat × (Addr → Value → Option Addr → TS)) → WX
  | [] => Wout
  | (c, some i, ts) :: r => fun cls d σ H => ∃ b, PySem.W.exmOne K cls c = some b ∧ (b = true → ∀ a, H a = none → ts a cls d { nx := fun σ' H' => D.nx (σ'.set i none) H', rt := D.rt, bk := fun σ' H' => D.bk (σ'.set i none) H', ct := fun σ' H' => D.ct (σ'.set i none) H' } (σ.set i (some (.ref a))) H) ∧
      (b = false → wManyA K Wout D r cls d σ H)
  | (c, none, ts) :: r => fun cls d σ H => ∃ b, PySem.W.exmOne K cls c = some b ∧ (b = true → ∀ a, H a = none → ts a cls d D σ H) ∧ (b = false → wManyA K Wout D r cls d σ H)
end L2
namespace Sim
open PySem PySem.Spec PyProof.Rows L2 Evl
section
variable {K : PySem.W.Frag} {σ : L2.St} {G H W G0 H0 : Hp} {ls : List Addr} {cs : Cs} {ta : TA} {to te : TE} {ι α β γ : Type} {A : AR ι} {R : Rep α} {S : Rep β} {T : Rep γ} {t u : TS} {D : Ends}
theorem Xat.mono {G G2 : Hp} {e : Xn} {d : Option Addr} (x : Ex G G2) (h : Xat K G e d) : Xat K G2 e d := by
  cases d with
  | none => exact h
  | some d =>
  obtain ⟨fs, h1, h2⟩ := h
  exact ⟨fs, x d _ h1, fun f y hy => by obtain ⟨v, h3, h4⟩ := h2 f y hy; exact ⟨v, h3, (rX K).mono x h4⟩⟩
end
end Sim

/-! try with several clauses, each with or without a name -/
namespace L2
open PySem PySem.Spec PyProof.Rows
/-- one clause: its class, the slot of its name, its suite -/
abbrev Cla : Type := Value × Option Nat × (Addr → Value → Option Addr → TS)
def SuOk (X : Cx) (su : List Stmt) (ts : Addr → Value → Option Addr → TS) : Prop := ∀ (a : Addr) (oe : Obj) (cls : Value) (d : Option Addr) (pn : List (Addr × Obj)), Zc cls d oe → (∃ vs, oe.data = .fields vs) → PSs (X.suite a ((a, oe) :: pn)) su (ts a cls d)
inductive HdsA (X : Cx) : List ExceptHandler → List Cla → Prop
  | nil : HdsA X [] []
  | plain {x : Str} {c : Value} {ts} {b₀ : Stmt} {su : List Stmt} {np p : Pos} {hds l} (hc : Names X x c) (hsu : SuOk X (b₀ :: su) ts) (r : HdsA X hds l) : HdsA X (.ExceptHandler (some (.Name x np)) none (b₀ :: su) p :: hds) ((c, none, ts) :: l)
  | as_ {x n : Str} {i : Nat} {c : Value} {ts} {b₀ : Stmt} {su : List Stmt} {np p : Pos} {hds l} (hc : Names X x c) (hi : X.N[i]? = some n) (hln : X.env.kindOf n = some .local) (hsu : SuOk X (b₀ :: su) ts) (r : HdsA X hds l) :
      HdsA X (.ExceptHandler (some (.Name x np)) (some n) (b₀ :: su) p :: hds) ((c, some i, ts) :: l)
/-- the exception at a is in the air over the state s, sI is the state without it -/
structure Aloft (X : Cx) (pins : List (Addr × Obj)) (σ : L2.St) (H : Hp) (cls : Value) (d : Option Addr) (a : Addr) (B : Heap) (sI s : Shared) : Prop where
  inv : Inv X pins σ H sI
  nb : ∀ b o, sI.heap.get? b = some o → b ∉ frs X.stack → B.get? b = some o
  up : sI.heap.UpToSlots s.heap
  fl : HandSPX.FlyingZ B X.stack a (Zc cls d) s.heap
  na : H a = none
  os : s.os = sI.os
  ag : AllBare s.gens
section
variable {X : Cx} {pins : List (Addr × Obj)} {σ : L2.St} {H : Hp} {cls : Value} {d : Option Addr} {a : Addr} {B : Heap} {sI s : Shared}
/-- seen from within a suite -/
theorem Aloft.within (A : Aloft X pins σ H cls d a B sI s) (hs : X.stack = X.env :: X.outer) (hf : X.env.frame = some X.env.locals) :
    ∃ oe, s.heap.get? a = some oe ∧ Zc cls d oe ∧ (∃ vs, oe.data = .fields vs) ∧ Inv X pins σ H s ∧ Inv (X.suite a ((a, oe) :: (X.pn ++ pins))) [] σ H s := by
  obtain ⟨oe, vs, h1, h2, h3⟩ := A.fl.there
  have J : Inv X pins σ H s := A.inv.landed A.nb A.fl.1 A.up A.os A.ag
  have out : a ∉ frs X.stack := fun hm => by
    obtain ⟨_, o, ho, hn⟩ := A.fl.2.2.1.mem hm
    rw [h1] at ho
    cases ho
    exact hn _ h3
  rw [hs] at out
  refine ⟨oe, h1, h2, ⟨vs, h3⟩, J, J.suite h1 h3 A.na (fun z => out ?_) (fun hm => out ?_)⟩
  · exact List.mem_filterMap.mpr ⟨X.env, List.mem_cons_self, by rw [hf, z]⟩
  · obtain ⟨e, he, q⟩ := List.mem_filterMap.mp hm
    exact List.mem_filterMap.mpr ⟨e, List.mem_cons_of_mem _ he, q⟩
/-- no clause is left -/
theorem Aloft.pass {Wout : WX} {Q : Flow → Shared → Prop} (A : Aloft X pins σ H cls d a B sI s) (hs : X.stack = X.env :: X.outer) (hf : X.env.frame = some X.env.locals) (tk : Takes X Wout) (w : Wout cls d σ H) :
    wpAny (model X.prog X.w) X.A (handleBy (.ref a) X.env []) Q X.xe s := by
  have fl := A.fl
  obtain ⟨_, _, _, oe, vs, T, oT, ts, h1, h2, h3, h4, _⟩ := id fl
  refine wpAny_handleBy_nil ?_
  unfold PySem.passOn
  refine wpAny_bind (wpAny_field h1 h3 h4 ?_)
  rw [if_neg (show ¬ ((Value.ref T == Value.none) = true) from by simp)]
  have last : wpAny (model X.prog X.w) X.A (setFlight (.ref a) X.env.frame) (fun _ s4 => wpAny (model X.prog X.w) X.A (throw (.ref a) : Sem Flow) Q X.xe s4) X.xe s := by
    rw [hf]
    rw [hs] at fl
    exact HandSPX.setFlight_upZ fl fun h4 hh up => wpAny_throw (tk _ _ ⟨a, B, sI, pins, σ, H, cls, d, rfl, A.inv, A.nb, A.up.trans up, .inr (.inr (by rw [hs]; exact hh)), A.na, A.os, A.ag, w⟩)
  first
    | exact wpAny_bind (wpAny_pure (wpAny_bind last))
    | exact wpAny_bind last
/-- the clauses, one after the other -/
theorem Aloft.go {Wout : WX} {D : Ends} (A : Aloft X pins σ H cls d a B sI s) (ok : X.Ok) (hN : X.N.Nodup) (hs : X.stack = X.env :: X.outer) (hf : X.env.frame = some X.env.locals) (tk : Takes X Wout) {hds : List ExceptHandler} {l : List Cla}
    (hk : HdsA X hds l) : wManyA X.K Wout D l cls d σ H → wpAny (model X.prog X.w) X.A (handleBy (.ref a) X.env hds) (SP X pins D) X.xe s := by
  obtain ⟨oe, h1, h2, _, J, S⟩ := A.within hs hf
  have ask : ∀ {x : Str} {c : Value} {np : Pos} {Q : Value → Shared → Prop} {E : Value → Shared → Prop}, Names X x c → Q c s → wpAny (model X.prog X.w) (X.A.mark (some (.ref a))) (eval (.Name x np) X.env) Q E s := fun {x c np Q E} hc q => by
    obtain ⟨hg, hd, hm | ⟨hm, hv, hn⟩⟩ := hc
    · exact ld_glob (X := X.suite a ((a, oe) :: (X.pn ++ pins))) S hg hm q hd
    · exact ld_blt (X := X.suite a ((a, oe) :: (X.pn ++ pins))) S hg hm hv q hn hd
  have kind : PySem.W.Looks (model X.prog X.w) s.heap (typeOf (.ref a)) cls := fun A Q E s k q => wpAny_typeOf_ref (k _ _ h1) (by rw [h2.1]; exact q)
  induction hk with
  | nil => exact fun w => A.pass hs hf tk w
  | @plain x c ts b₀ su np p hds l hc hsu r ih =>
    rintro ⟨b, hb, yes, no⟩
    refine wpAny_handleBy_cons (codeAny_handlers_test ?_) (by intro q; cases q)
    refine ask hc ((PySem.W.exm_one (M := model X.prog X.w) J.kIn kind hb).here ?_)
    cases b with
    | false => exact ih (no rfl)
    | true =>
      refine codeAny_handlers_suite ?_
      have fl := A.fl
      rw [hs] at fl
      refine HandSPX.lands_againZ fl fun h4 fl4 up4 => ?_
      have A4 : Aloft X pins σ H cls d a B sI { s with heap := h4 } := ⟨A.inv, A.nb, A.up.trans up4, by rw [hs]; exact fl4, A.na, A.os, A.ag⟩
      obtain ⟨oe4, _, z4, f4, _, S4⟩ := A4.within hs hf
      refine wpAny_mono ((hsu a oe4 cls d _ z4 f4).run [] _ _ H _ S4 (yes rfl a A.na)) (fun f s6 hsp => ?_) (fun _ _ z => False.elim z)
      cases f with
      | ret u => obtain ⟨v, σ6, H6, S6, r6, q⟩ := hsp; exact ⟨v, σ6, H6, S6.unsuite ok, r6, q⟩
      | next => obtain ⟨σ6, H6, S6, q⟩ := hsp; exact ⟨σ6, H6, S6.unsuite ok, q⟩
      | brk => obtain ⟨σ6, H6, S6, q⟩ := hsp; exact ⟨σ6, H6, S6.unsuite ok, q⟩
      | cont => obtain ⟨σ6, H6, S6, q⟩ := hsp; exact ⟨σ6, H6, S6.unsuite ok, q⟩
  | @as_ x n i c ts b₀ su np p hds l hc hi hln hsu r ih =>
    rintro ⟨b, hb, yes, no⟩
    refine wpAny_handleBy_cons (codeAny_handlers_test ?_) (by intro q; cases q)
    refine ask hc ((PySem.W.exm_one (M := model X.prog X.w) J.kIn kind hb).here ?_)
    cases b with
    | false => exact ih (no rfl)
    | true =>
      refine codeAny_handlers_suite_as ?_
      have fl := A.fl
      rw [hs] at fl
      refine HandSPX.lands_againZ fl fun h4 fl4 up4 => ?_
      have A4 : Aloft X pins σ H cls d a B sI { s with heap := h4 } := ⟨A.inv, A.nb, A.up.trans up4, by rw [hs]; exact fl4, A.na, A.os, A.ag⟩
      obtain ⟨oe4, _, z4, f4, _, S4⟩ := A4.within hs hf
      refine store_ok (X := X.suite a ((a, oe4) :: (X.pn ++ pins))) (v := .ref a) S4 hN hi (.inl hln) rfl (fun s5 S5 => ?_) (.inr hln)
      refine wpAny_mono ((hsu a oe4 cls d _ z4 f4).run [] s5 _ H _ S5 (yes rfl a A.na)) (fun f s6 hsp => ?_) (fun _ _ z => False.elim z)
      have off : ∀ {σ6 : L2.St} {H6 : Hp} {Q : Shared → Prop}, Inv (X.suite a ((a, oe4) :: (X.pn ++ pins))) [] σ6 H6 s6 → (∀ s7, Inv X pins (σ6.set i none) H6 s7 → Q s7) →
          wpAny (model X.prog X.w) X.A (do bindName X.env n .none; unbindBehindTheSuite X.env n p) (fun _ s7 => Q s7) X.xe s6 := fun S6 k => gone_ok (S6.unsuite ok) hN hi hln k
      cases f with
      | ret u => obtain ⟨v, σ6, H6, S6, r6, q⟩ := hsp; exact off S6 fun s7 J7 => ⟨v, _, H6, J7, r6, q⟩
      | next => obtain ⟨σ6, H6, S6, q⟩ := hsp; exact off S6 fun s7 J7 => ⟨_, H6, J7, q⟩
      | brk => obtain ⟨σ6, H6, S6, q⟩ := hsp; exact off S6 fun s7 J7 => ⟨_, H6, J7, q⟩
      | cont => obtain ⟨σ6, H6, S6, q⟩ := hsp; exact off S6 fun s7 J7 => ⟨_, H6, J7, q⟩
end
section
variable {X : Cx} {body : List Stmt} {h₀ : ExceptHandler} {hds : List ExceptHandler} {l : List Cla} {pos : Pos} {tb : WX → TS} {Wout : WX}
end
end L2

/-! the hook with own exceptions -/
namespace Sim
open PySem PySem.Spec PyProof.Rows L2 Evl
/-- the property f of the class C, its place, its getter -/
def prP (K : PySem.W.Frag) (C f : Str) : Addr := He.ma K (He.ga K C) f
def wrG (K : PySem.W.Frag) (k : String) (C f : Str) : Addr := match PySem.W.recIn K (prP K C f) k with
  | some (.ref g :: _) => g
  | _ => 0
def statB (C f : Str) (K : PySem.W.Frag) : Bool := decide (PySem.W.specialIn K (.ref (He.ga K C)) "__getattribute__" = some (some (.builtin "type.__getattribute__"))) && (decide (PySem.W.typeIn K (.ref (He.ga K C)) = some (.type "type")) &&
  (PySem.W.readsIn K (He.ga K C) (.type "type") && ((match PySem.W.findCls K (.ref (He.ga K C)) (.type "type") f with
    | some (.get (.builtin n) (.ref p) .none (.ref D)) => n == "staticmethod.__get__" && (p == prP K C f && D == He.ga K C)
    | _ => false) && (match PySem.W.recIn K (prP K C f) "staticmethod" with
    | some (.ref g :: _) => PySem.W.handedIn (.ref g)
    | _ => false))))
def propB (C f : Str) (K : PySem.W.Frag) : Bool := decide (PySem.W.findIn K (.ref (He.ga K C)) f = some (some (.ref (prP K C f)))) && (decide (PySem.W.specialIn K (.ref (prP K C f)) "__get__" = some (some (.builtin "property.__get__"))) &&
  (decide (PySem.W.takesIn K (.ref (prP K C f)) = some true) && (match PySem.W.recIn K (prP K C f) "property" with
    | some (.ref _ :: _) => true
    | _ => false)))
/-- a property's getter: a def -/
structure GeD where
  kind : String
  cls : Str
  prop : Str
  qual : Str
  params : Arguments
  body : List Stmt
  scope : Scope
def fnG (K : PySem.W.Frag) (k : String) (C f : Str) : He.FnW := match K.lookup (wrG K k C f) with
  | some ⟨_, _, .func fd, _⟩ => some (fd.name, fd.qualname, fd.params, fd.body, fd.scope, fd.globals, fd.closure, fd.builtins)
  | _ => none
def GeD.val (d : GeD) : He.FnW := some (d.prop, d.qual, d.params, .stmts d.body, d.scope, mainGlobals, [], builtinsNs)
def GeD.ok (K : PySem.W.Frag) (d : GeD) : Bool := (bif d.kind == "property" then propB d.cls d.prop K else statB d.cls d.prop K) && (PySem.W.keepIn K (.ref (wrG K d.kind d.cls d.prop)) && (match K.lookup (wrG K d.kind d.cls d.prop) with
  | some ⟨_, _, .func fd, _⟩ => PySem.W.codeIn K fd.code d.qual && (He.dflB K fd.defaults [] && He.kwdB K fd.kwdefaults [])
  | _ => false))
abbrev AlX : Type := He.AlD × Bool × List FnY × List He.FnW
def obsX (fa : List He.Fa) (fn : List He.DefD) (ex : List (PySem.W.Frag → Bool)) (xs : List XcD) (gs : List GeD) (file : Str) (K : PySem.W.Frag) : AlX := (He.obsD fa fn K, (ex.all fun e => e K) && ((xs.all fun d => d.ok K file) && gs.all fun d => d.ok K), (xs.map fun d => fnY K d.cls), gs.map fun d => fnG K d.kind d.cls d.prop)
def obsXG (n : Nat) (fa : List He.Fa) (fn : List He.DefD) (ex : List (PySem.W.Frag → Bool)) (xs : List XcD) (gs : List GeD) (file : Str) (g : Addr → Option Obj) : AlX := obsX fa fn ex xs gs file (He.frG g (cStatics :: He.asD g n))
structure SaysX (fa : List He.Fa) (fn : List He.DefD) (ex : List (PySem.W.Frag → Bool)) (xs : List XcD) (gs : List GeD) (file : Str) (K : PySem.W.Frag) : Prop where
  d : He.SaysD fa fn K
  x : ((ex.all fun e => e K) && ((xs.all fun d => d.ok K file) && gs.all fun d => d.ok K)) = true
  y : (xs.map fun d => fnY K d.cls) = xs.map XcD.val
  g : (gs.map fun d => fnG K d.kind d.cls d.prop) = gs.map GeD.val
def hookX (n : Nat) (fa : List He.Fa) (fn : List He.DefD) (ex : List (PySem.W.Frag → Bool)) (xs : List XcD) (gs : List GeD) (file : Str) : PySem.W.Hook where
  α := AlX
  obs := fun s => obsXG n fa fn ex xs gs file s.heap.get?
  val := fun _ => (He.valD fn, true, xs.map XcD.val, gs.map GeD.val)
  says := fun _ h => ∃ K : PySem.W.Frag, K.In h ∧ SaysX fa fn ex xs gs file K
  of := fun _ _ e => ⟨_, He.frG_in, congrArg (fun z : AlX => z.1) e, congrArg (fun z : AlX => z.2.1) e, congrArg (fun z : AlX => z.2.2.1) e, congrArg (fun z : AlX => z.2.2.2) e⟩
  keeps := fun _ _ _ ⟨K, hK, c⟩ k => ⟨K, PySem.W.Frag.In.keeps hK k, c⟩
structure TxX (fa : List He.Fa) (fn : List He.DefD) (es : List (PySem.W.Frag → Bool)) (xs : List XcD) (gs : List GeD) (file : Str) (K : PySem.W.Frag) (mg : Str → Option Value) : Prop extends TxE fa fn es K mg where
  xo : (xs.all fun d => d.ok K file) = true
  xv : (xs.map fun d => fnY K d.cls) = xs.map XcD.val
  go : (gs.all fun d => d.ok K) = true
  gv : (gs.map fun d => fnG K d.kind d.cls d.prop) = gs.map GeD.val
section
variable {fa : List He.Fa} {fn : List He.DefD} {es : List (PySem.W.Frag → Bool)} {xs : List XcD} {gs : List GeD} {file : Str} {K : PySem.W.Frag} {mg : Str → Option Value}
end
/-- further Bools: fields of an exception, isinstance of it, a property -/
def noB (C f : Str) (K : PySem.W.Frag) : Bool := decide (PySem.W.findIn K (.ref (He.ga K C)) f = some none)
def exmB (C D : Str) (b : Bool) (K : PySem.W.Frag) : Bool := decide (PySem.W.exmOne K (.ref (He.ga K C)) (.ref (He.ga K D)) = some b)
end Sim

/-! isinstance of a caught exception that has fields; properties -/
namespace PySem.W
open PySem PySem.Calls PyProof.Rows PySem.Spec
section
variable {prog : Program} {w : World} {A : Around} {E : Value → Shared → Prop} {s : Shared} {K : Frag} {x D : Addr} {ox : Obj} {od : Obj}
end
end PySem.W
namespace L2
open PySem PySem.Spec PyProof.Rows
end L2
namespace Sim
open PySem PySem.Spec PyProof.Rows L2 Evl
section
variable {K : PySem.W.Frag} {σ : L2.St} {G H W : Hp} {to : TE} {ta : TA} {α γ : Type} {T : Rep γ}
end
end Sim

namespace Sim
open PySem PySem.Spec PyProof.Rows L2 Evl
end Sim

/-! a class made whose __init__ may raise; isinstance of whatever was caught; tables of exception classes -/
namespace L2
open PySem PySem.Spec PyProof.Rows
section
variable {X : Cx} {CX : CXT} {k : Nat} {f C : Addr} {fd : FuncData} {ps : List Str} {sp : Sp} {E : St → XK} {x m : Str} {p pos apos : Pos} {e o : Expr} {es : List Expr} {ta : TE} {t : TA}
end
end L2
namespace Sim
open PySem PySem.Spec PyProof.Rows L2 Evl
/-! tables: what the top's end says of the exception classes cs -/
def excCB (K : PySem.W.Frag) (D : Addr) : Bool := decide (PySem.W.findIn K (.ref D) "__getattribute__" = some (some (.builtin "BaseException.__getattribute__"))) && (decide (PySem.W.findIn K (.ref D) "__getattr__" = some none) &&
  (decide (PySem.W.subIn K (.ref D) (.type "BaseException") = some true) && (PySem.W.hasDictIn K D && (decide (PySem.W.findIn K (.ref D) "__class__" = some (some (.builtin "object.__class__"))) &&
  (decide (PySem.W.specialIn K (.builtin "object.__class__") "__get__" = some (some (.builtin "getset_descriptor.__get__"))) && (decide (PySem.W.takesIn K (.builtin "object.__class__") = some true) && decide (PySem.W.mroIn K D (.type "object") = some true)))))))
/-- each of cs: an exception class that is told by its fields -/
def xsB (cs : List Str) (K : PySem.W.Frag) : Bool := cs.all fun C => excCB K (He.ga K C) && xfB K (He.ga K C)
/-- no attribute of these names in the classes -/
def xnB (cs : List Str) (fs : List Str) (K : PySem.W.Frag) : Bool := cs.all fun C => fs.all fun f => noB C f K
/-- for each of cs: the clause 'except D' -/
def xaB (cs : List Str) (D : Str) (b : Bool) (K : PySem.W.Frag) : Bool := cs.all fun C => exmB C D b K
def kiB (C : Str) (v : Value) (b : Bool) (K : PySem.W.Frag) : Bool := decide (PySem.W.kitOne K (.ref (He.ga K C)) v = some b)
/-- for each of cs: isinstance(e, D) -/
def xkB (cs : List Str) (D : Str) (ds : List Str) (K : PySem.W.Frag) : Bool := cs.all fun C => kiB C (.ref (He.ga K D)) (ds.contains C) K
def xkTB (cs : List Str) (D : String) (b : Bool) (K : PySem.W.Frag) : Bool := cs.all fun C => kiB C (.type D) b K
section
variable {K : PySem.W.Frag} {cs fs : List Str} {C D f : Str} {b : Bool}
end
section
variable {K : PySem.W.Frag} {σ : L2.St} {G H W G0 H0 G2 H2 : Hp} {ls : List Addr} {cs : Cs} {ta tb : TA} {to te tu : TE} {ι α β γ : Type} {A : AR ι} {R : Rep α} {S : Rep β} {T : Rep γ} {D : Ends} {l C : Addr} {ns : List Str} {fl : α → List Pd}
end
end Sim

/-! properties; == of further data; list + list; index; all, any -/
namespace Sim
open PySem PySem.Spec PyProof.Rows L2 Evl
section
variable {K : PySem.W.Frag} {σ : L2.St} {G H W G' W' : Hp} {ta : TA} {te tu : TE} {ι α β γ : Type} {A : AR ι} {R : Rep α} {S : Rep β} {T : Rep γ}
end
end Sim

/-! operators of own classes: ==, len, in, binary and unary ones -/
namespace L2
open PySem PySem.Spec PyProof.Rows
section
variable {X : Cx} {CX : CXT} {k : Nat} {f C : Addr} {fd : FuncData} {ps : List Str} {sp : Sp} {pins : List (Addr × Obj)} {σ : St} {H : Hp} {s : Shared} {ta tb : TE}
end
end L2

/-! operators of own classes: what they read as -/
namespace Sim
open PySem PySem.Spec PyProof.Rows L2 Evl
section
variable {K : PySem.W.Frag} {σ : L2.St} {G H W : Hp} {ta tb te : TE} {tA : TA} {α β γ ι : Type} {R : Rep α} {S : Rep β} {T : Rep γ} {A : AR ι} {C : Addr} {ns : List Str} {fl : α → List Pd}
end
end Sim

/-! what is walked, told in general; comprehensions with two clauses -/
namespace Sim
open PySem L2 Evl
section
variable {K : PySem.W.Frag} {σ : L2.St} {G H W G' W' : Hp} {te tl : TE} {tt tt1 : TT} {α β γ δ : Type} {R : Rep α} {S : Rep β} {T : Rep γ} {wi wi1 : TI} {g g1 : TG}
/-! ### [e2 for x in xs if f1 for y in g2 x if p2] -/
structure Acc (G0 H0 : Hp) (T : Rep γ) (D : Addr) (G H : Hp) (acc : List V) (ys : List γ) : Prop where
  n : H0 D = none
  u : Up G0 H0 G H
  gd : G D = none
  hd : H D = some (.lst acc)
  pr : Paired (T.r G) acc ys
section
variable {G0 H0 : Hp} {D : Addr} {acc : List V} {ys zs : List γ}
theorem Acc.sc {H2 : Hp} (A : Acc G0 H0 T D G H acc ys) (e : Ex H H2) : Acc G0 H0 T D G H2 acc ys := ⟨A.n, A.u.trans (Up.same A.u.gh e), A.gd, e _ _ A.hd, A.pr⟩
theorem Acc.up {G2 H2 : Hp} (A : Acc G0 H0 T D G H acc ys) (u : Up G H G2 H2) : Acc G0 H0 T D G2 H2 acc ys :=
  ⟨A.n, A.u.trans u, u.nw D (by rw [A.hd]; simp) A.gd, u.hh _ _ A.hd, Paired.mapP A.pr fun _ _ => T.mono u.gg⟩
end
/-! ### is True, is False; and where the first operand is known -/
end
section
variable {K : PySem.W.Frag} {σ : L2.St} {G H W : Hp} {te ta : TE} {α : Type}
end
end Sim

/-! static methods, class constants read off the class -/
namespace L2
open PySem PySem.Spec PyProof.Rows
section
variable {X : Cx} {CX : CXT} {k : Nat} {f C p : Addr} {fd : FuncData} {ps : List Str} {sp : Sp} {E : St → XK} {x m : Str} {pos apos : Pos} {e o : Expr} {es : List Expr} {ta : TE} {t : TA}
end
end L2
namespace Sim
open PySem PySem.Spec PyProof.Rows L2 Evl
section
variable {K : PySem.W.Frag} {σ : L2.St} {G H W : Hp} {ta : TA} {ι γ : Type} {A : AR ι} {T : Rep γ} {C : Addr}
end
end Sim

/-! data of mixed kinds; a pair unpacked; one-clause comprehensions over anything -/
namespace Sim
open PySem L2 Evl
mutual
theorem Dp.up {K : PySem.W.Frag} {H H' : Hp} (e : Ex H H') : ∀ {v : V} {d : PyData}, Dp K H v d → Dp K H' v d
  | _, _, .non => .non
  | _, _, .bl b => .bl b
  | _, _, .int i => .int i
  | _, _, .str x => .str x
  | _, _, .lst h t => .lst (ex_l e h) (DpAll.up e t)
  | _, _, .tup h t => .tup (ex_t e h) (DpAll.up e t)
theorem DpAll.up {K : PySem.W.Frag} {H H' : Hp} (e : Ex H H') : ∀ {vs : List V} {ds : List PyData}, DpAll K H vs ds → DpAll K H' vs ds
  | _, _, .nil => .nil
  | _, _, .cons h t => .cons (Dp.up e h) (DpAll.up e t)
end
section
variable {K : PySem.W.Frag} {σ : L2.St} {G H W G0 H0 : Hp} {ls : List Addr} {cs : Cs} {te : TE} {α β γ : Type} {R : Rep α} {S : Rep β} {T : Rep γ} {D : Ends} {tz : TS}
end
section
variable {K : PySem.W.Frag} {σ : L2.St} {G H W : Hp} {te : TE} {tt : TT} {α γ : Type} {R : Rep α} {T : Rep γ} {wi : TI} {g : TG}
end
end Sim

/-! dicts -/
namespace Sim
open PySem L2 Evl
/-- a dict: its entries in order; kf: how a key stands -/
def rM {κ α : Type} (kf : κ → Key) (R : Rep α) : Rep (List (κ × α)) := ⟨fun H v kvs => ∃ a ws, v = .ref a ∧ H a = some (.dK ws) ∧ Paired (fun (p : Key × V) (q : κ × α) => p.1 = kf q.1 ∧ R.r H p.2 q.2) ws kvs,
  fun e ⟨a, ws, h1, h2, h3⟩ => ⟨a, ws, h1, e a _ h2, Paired.mapP h3 fun _ _ h => ⟨h.1, R.mono e h.2⟩⟩⟩
section
variable {K : PySem.W.Frag} {σ : L2.St} {G H W : Hp} {κ α β γ : Type} {kf : κ → Key} {R : Rep α}
end
end Sim

set_option maxHeartbeats 2000000
/-! own iterables: __iter__ gives iter(a list of theirs) -/
namespace L2
open PySem PySem.Spec PyProof.Rows ItX
section
variable {X : Cx} {k j : Nat} {fi C : Addr} {fd : FuncData} {ps : List Str} {pins : List (Addr × Obj)} {σ : St} {H : Hp} {s : Shared} {te : TE} {f : Str}
/-! ### list(o) -/
variable {fl : Addr} {fdl : FuncData} {psl : List Str} {spl : Sp}
end
end L2

namespace Sim
open PySem L2 Evl
section
variable {K : PySem.W.Frag} {σ : L2.St} {G H W : Hp} {te : TE} {α β γ : Type} {R : Rep β} {C : Addr} {ns : List Str} {fl : α → List Pd}
end
end Sim
namespace Sim
open PySem L2
end Sim

set_option maxHeartbeats 2000000
/-! a class with slots -/
namespace L2
open PySem PySem.Spec PyProof.Rows SlX
section
variable {X : Cx} {CX : CXT} {k : Nat} {f C : Addr} {fd : FuncData} {ps : List Str} {sp : Sp} {pins : List (Addr × Obj)} {σ : St} {H : Hp} {s : Shared} {ta tb : TE}
end
end L2
namespace Sim
open PySem PySem.Spec PyProof.Rows L2 Evl SlX
abbrev Ps := List (Nat × Pd)
def PsAt (ps : Ps) (G : Hp) (vs : List (Option V)) : Prop := ∀ q ∈ ps, ∃ v, vs[q.1]? = some (some v) ∧ q.2.p G v
theorem PsAt.mono {ps : Ps} {G G' : Hp} {vs : List (Option V)} (e : Ex G G') (h : PsAt ps G vs) : PsAt ps G' vs := fun q hq => by
  obtain ⟨v, h1, h2⟩ := h q hq
  exact ⟨v, h1, q.2.mono e h2⟩
/-- an instance with slots, as data -/
def rSl {α : Type} (C : Addr) (fl : α → Ps) : Rep α := ⟨fun H v x => ∃ a dx vs, v = .ref a ∧ H a = some (SlO a C dx vs) ∧ H dx = some (.xd []) ∧ PsAt (fl x) H vs,
  fun e ⟨a, dx, vs, h1, h2, h3, h4⟩ => ⟨a, dx, vs, h1, e a _ h2, e dx _ h3, h4.mono e⟩⟩
section
variable {K : PySem.W.Frag} {σ : L2.St} {G0 H0 G H G2 H2 W : Hp} {ls : List Addr} {cs : Cs} {l ld C : Addr} {ta : TA} {te to : TE} {α β γ ι : Type} {R : Rep α} {S : Rep β} {T : Rep γ} {A : AR ι} {D : Ends} {tz : TS} {fl : α → Ps}
theorem PsAt.put {ps : Ps} {vs : List (Option V)} {n : Nat} {v : V} {q : Pd} (h : PsAt ps G vs) (hn : ∀ p ∈ ps, p.1 ≠ n) (r : q.p G v) : PsAt (ps ++ [(n, q)]) G (putS n v vs) := fun p hp => by
  rcases List.mem_append.mp hp with hp | hp
  · obtain ⟨w, h1, h2⟩ := h p hp
    exact ⟨w, (putS_ne (hn p hp)).mpr h1, h2⟩
  · rw [List.mem_singleton.mp hp]
    exact ⟨v, putS_get n v vs, r⟩
/-! own == -/
end
/-! facts of the text -/
def sclB (C : Str) (K : PySem.W.Frag) : Bool := PySem.W.plainGet K (He.ga K C) Str.empty && (PySem.W.isClsIn K (He.ga K C) && (PySem.W.plainOver K (He.ga K C) && decide (PySem.W.findIn K (.ref (He.ga K C)) "__setattr__" = some (some (.builtin "object.__setattr__")))))
def slotB (C f : Str) (i : Nat) (K : PySem.W.Frag) : Bool := decide (PySem.W.findIn K (.ref (He.ga K C)) f = some (some (.ref (He.ma K (He.ga K C) f)))) && (decide (PySem.W.specialIn K (.ref (He.ma K (He.ga K C) f)) "__get__" = some (some (.builtin "member_descriptor.__get__"))) &&
  (decide (PySem.W.takesIn K (.ref (He.ma K (He.ga K C) f)) = some true) && (decide (PySem.W.typeIn K (.ref (He.ma K (He.ga K C) f)) = some (.type "member_descriptor")) && (decide (PySem.W.slotIn K (He.ma K (He.ga K C) f) (He.ga K C) = some i) && decide (i < 1000)))))
end Sim

/-! cells of any kind; dicts; texts -/
namespace L2
open PySem PySem.Spec PyProof.Rows
section
variable {X : Cx}
end
end L2
namespace Sim
open PySem L2 Evl
/-! ### texts -/
section
variable {K : PySem.W.Frag} {σ : L2.St} {G0 H0 G H G2 H2 W : Hp} {ls : List Addr} {cs : Cs} {l : Addr} {cp' : CP} {ta : TA} {te td ti tx : TE} {α β γ ι κ : Type} {R : Rep α} {S : Rep β} {T : Rep γ} {A : AR ι} {D : Ends} {tz : TS}
/-! ### cells of any kind -/
/-- what stands in such a cell is data once nobody changes it -/
def Fz (cp : β → CP) (S : Rep β) : Prop := ∀ {G G' : Hp} {l : Addr} {o : HO} {x : β}, (cp x).p G o → Ex G G' → G' l = some o → S.r G' (.ref l) x
def EC (te : TE) (σ : L2.St) (G W : Hp) (cp : β → CP) (m : Option β) : Prop :=
  ∀ x, m = some x → ∀ H, Ex G H → Ex W H → ∀ Q : VK, (∀ p H2 G2, H p = none → Up G H G2 H2 → Wd G2 H2 [(p, cp x)] → Q (.ref p) H2) → te σ H Q
variable {cp : β → CP}
theorem frzC {G H G1 H1 : Hp} {p : Addr} {x : β} (F : Fz cp S) (hp : H p = none) (u : Up G H G1 H1) (w : Wd G1 H1 [(p, cp x)]) : ∃ G2, Up G H G2 H1 ∧ S.r G2 (.ref p) x := by
  obtain ⟨h1, o, h2, h3⟩ := w.head
  refine ⟨upd G1 p o, u.frz hp (Ex.new h1) (fun a u' e => ?_) (fun a ne h => by rw [upd_ne ne]; exact h), F h3 (Ex.new h1) upd_same⟩
  by_cases q : a = p
  · subst q; rw [upd_same] at e; cases e; exact h2
  · rw [upd_ne q] at e; exact w.ex a u' e
theorem EC.e {m : Option β} (F : Fz cp S) (h : EC te σ G W cp m) : E te σ G W S m := fun x hx H e e' Q q => h x hx H e e' Q fun p H2 G2 hp u w => by
  obtain ⟨G3, u3, r3⟩ := frzC F hp u w
  exact q _ H2 G3 u3 r3
/-! ### dicts -/
variable {κ : Type} [DecidableEq κ] {kf : κ → Key}
def Pm (kf : κ → Key) (R : Rep α) (G : Hp) : List (Key × V) → List (κ × α) → Prop := Paired (fun (p : Key × V) (q : κ × α) => p.1 = kf q.1 ∧ R.r G p.2 q.2)
def cM (kf : κ → Key) (R : Rep α) (kvs : List (κ × α)) : CP := ⟨fun G o => ∃ ws, o = .dK ws ∧ Pm kf R G ws kvs, fun e ⟨ws, h1, h2⟩ => ⟨ws, h1, Paired.mapP h2 fun _ _ h => ⟨h.1, R.mono e h.2⟩⟩⟩
def lookM (kvs : List (κ × α)) (k : κ) : Option α := (kvs.find? fun q => decide (q.1 = k)).map (·.2)
def putM (kvs : List (κ × α)) (k : κ) (x : α) : List (κ × α) := if (kvs.any fun q => decide (q.1 = k)) = true then kvs.map (fun q => if q.1 = k then (q.1, x) else q) else kvs ++ [(k, x)]
end
end Sim

/-! displays and making of objects, opened -/
namespace Sim
open PySem L2 Evl
section
variable {K : PySem.W.Frag} {C : Addr} {σ : L2.St} {G0 H0 G H G2 H2 W : Hp} {ls : List Addr} {cs : Cs} {l : Addr} {ta : TA} {sp : Sp} {dvs : List V} {X : XK} {Q : VK} {α β ι : Type} {R : Rep α} {S : Rep β} {A : AR ι}
end
end Sim

/-! slices of lists, f-strings, join -/
namespace Sim
open PySem L2 Evl
section
variable {K : PySem.W.Frag} {σ : L2.St} {G H W : Hp} {te to : TE} {tl th : TO} {α : Type} {R : Rep α}
/-! f-strings -/
/-! join -/
/-! p[0], p[1] with effects; a cell's element -/
variable {G0 H0 : Hp} {ls : List Addr} {cs : Cs} {l : Addr} {β : Type} {S : Rep β}
/-! C(.., cell, ..) of a class with slots, the cell only read -/
variable {κ ι : Type} {B : Rep κ} {C : Addr} {A : AR ι} {fl : α → Ps} {ad : ι → Addr} {ys : List κ} {ta : TA}
/-! comprehensions over a lent list -/
section
variable {γ : Type} {T : Rep γ} {wi : TI} {g : TG} {tt : TT}
end
/-! what is never reached -/
end
end Sim

/-! for .. in zip(tuple, tuple) -/
namespace Sim
open PySem L2 Evl
section
variable {K : PySem.W.Frag} {σ : L2.St} {G0 H0 G H W : Hp} {ls : List Addr} {cs : Cs} {ta : TA} {α β : Type} {R : Rep α} {S : Rep β} {D : Ends} {tu tz : TS} {g : TG}
/-! displays of lists, sums of lists, opened -/
end
end Sim

/-! an object called: x(..), x of an own class with __call__ -/
namespace PySem.W
open PySem PySem.Spec PySem.Calls PyProof.Rows
end PySem.W
namespace L2
open PySem PySem.Spec PyProof.Rows
section
variable {X : Cx} {CX : CXT} {k i : Nat} {f C : Addr} {fd : FuncData} {ps : List Str} {sp : Sp} {E : St → XK} {x : Str} {p pos : Pos} {e : Expr} {es : List Expr} {t : TA}
end
end L2

set_option maxHeartbeats 4000000
/-! own classes: an __init__ whose first statement is super().__init__(..), over an own class's __init__ -/
namespace Sim
open PySem PySem.Spec PyProof.Rows L2 PySem.W PySem.Calls NdefX
/-- what the written part says of such an __init__, written in the class at D, of an instance of the class at C -/
structure SupP (P : Program) (K : Frag) (mg : Str → Option Value) (D C f g : Addr) (fd : FuncData) (F : NF) (ps : List Str) (dvs : List V) : Prop where
  lk : ∃ oc od osl dV kV doc pm an ct, fd = PySem.W.fnX F.name F.qual F.params F.body F.scope F.cl dV kV doc pm an (.ref F.c) ct ∧ K.lookup f = some ⟨oc, od, .func fd, osl⟩ ∧ DflV K dV dvs
  cd : PySem.W.codeIn K (.ref F.c) F.qual = true
  cl : ∃ cc oc od osl, F.cl = [(("__class__" : Str), cc)] ∧ K.lookup cc = some ⟨oc, od, .cell (some (.ref D)), osl⟩
  par : ∃ ar ps', (F.params.posonlyargs ++ F.params.args).head? = some ar ∧ ps = ar.arg :: ps' ∧ (F.scope.names.lookup ar.arg = some .local ∨ F.scope.names.lookup ar.arg = some .cell)
  code : ∃ ccl cdd vs ccs file tf, K.lookup F.c = some ⟨ccl, cdd, .fields vs, ccs⟩ ∧ vs[2]? = some (.str file tf) ∧ ((P.main.file : Str) == file) = true
  cls : ∃ cdD, clsIn K D = some cdD
  clsC : ∃ cdC, clsIn K C = some cdC
  sub : mroIn K C (.ref D) = some true
  ks : F.scope.names.lookup ("super" : Str) = some .globalImplicit
  kc : F.scope.names.lookup ("__class__" : Str) = some .free
  mg : mg "super" = none
  top : (P.main.scope.names.lookup ("super" : Str)).isSome = false
  opq : nsIn K cStatics "thirdparty.any" = some none
  sup : ks_superIn K C D "__init__" = some (some (.ref g))
  gt : typeIn K (.ref g) = some (.type "function")
  gf : fnIn K g = true
/-- what the written part says of a def named nm, written in the class at D, of an instance of the class at C, whose super() finds g -/
structure SupM (P : Program) (K : Frag) (mg : Str → Option Value) (D C f g : Addr) (nm : Str) (fd : FuncData) (F : NF) (ps : List Str) (dvs : List V) : Prop where
  lk : ∃ oc od osl dV kV doc pm an ct, fd = PySem.W.fnX F.name F.qual F.params F.body F.scope F.cl dV kV doc pm an (.ref F.c) ct ∧ K.lookup f = some ⟨oc, od, .func fd, osl⟩ ∧ DflV K dV dvs
  cd : PySem.W.codeIn K (.ref F.c) F.qual = true
  cl : ∃ cc oc od osl, F.cl = [(("__class__" : Str), cc)] ∧ K.lookup cc = some ⟨oc, od, .cell (some (.ref D)), osl⟩
  par : ∃ ar ps', (F.params.posonlyargs ++ F.params.args).head? = some ar ∧ ps = ar.arg :: ps' ∧ (F.scope.names.lookup ar.arg = some .local ∨ F.scope.names.lookup ar.arg = some .cell)
  code : ∃ ccl cdd vs ccs file tf, K.lookup F.c = some ⟨ccl, cdd, .fields vs, ccs⟩ ∧ vs[2]? = some (.str file tf) ∧ ((P.main.file : Str) == file) = true
  cls : ∃ cdD, clsIn K D = some cdD
  clsC : ∃ cdC, clsIn K C = some cdC
  sub : mroIn K C (.ref D) = some true
  ks : F.scope.names.lookup ("super" : Str) = some .globalImplicit
  kc : F.scope.names.lookup ("__class__" : Str) = some .free
  mg : mg "super" = none
  top : (P.main.scope.names.lookup ("super" : Str)).isSome = false
  opq : nsIn K cStatics "thirdparty.any" = some none
  sup : ks_superIn K C D nm = some (some (.ref g))
  gt : typeIn K (.ref g) = some (.type "function")
  gf : fnIn K g = true
theorem SupP.m {P : Program} {K : Frag} {mg : Str → Option Value} {D C f g : Addr} {fd : FuncData} {F : NF} {ps : List Str} {dvs : List V} (h : SupP P K mg D C f g fd F ps dvs) : SupM P K mg D C f g "__init__" fd F ps dvs :=
  ⟨h.lk, h.cd, h.cl, h.par, h.code, h.cls, h.clsC, h.sub, h.ks, h.kc, h.mg, h.top, h.opq, h.sup, h.gt, h.gf⟩
theorem SupM.p {P : Program} {K : Frag} {mg : Str → Option Value} {D C f g : Addr} {fd : FuncData} {F : NF} {ps : List Str} {dvs : List V} (h : SupM P K mg D C f g "__init__" fd F ps dvs) : SupP P K mg D C f g fd F ps dvs :=
  ⟨h.lk, h.cd, h.cl, h.par, h.code, h.cls, h.clsC, h.sub, h.ks, h.kc, h.mg, h.top, h.opq, h.sup, h.gt, h.gf⟩
section
variable {CX : CXT} {P : Program} {w : World} {K : PySem.W.Frag} {mg : Str → Option Value} {base : Heap} {N ps psg : List Str} {F : NF} {C D f g : Addr} {fd fdg : FuncData} {k : Nat} {sp spg : Sp} {e : Expr} {es : List Expr} {rest : List Stmt} {p0 p1 p2 p3 p4 : Pos} {pl : Sem Bool}
end
end Sim

/-! askers: objects whose field `asks` holds a list that is changed; that list is a cell of the caller -/
namespace Sim
open PySem L2 Evl
section
variable {K : PySem.W.Frag} {C : Addr} {σ : L2.St} {G0 H0 G H G2 H2 W : Hp} {ls : List Addr} {cs : Cs} {l : Addr} {ta : TA} {te : TE} {X : XK} {α β κ ι : Type} {R : Rep α} {S : Rep β} {T : Rep α} {B : Rep κ} {A : AR ι} {D : Ends} {tz : TS} {ns : List Str}
end
end Sim

/-! the hook with an __init__ that calls super().__init__ of an own class -/
namespace Sim
section
open PySem PySem.Spec PyProof.Rows L2 PySem.W PySem.Calls NdefX
/-- an __init__ that calls super().__init__ of an own class: written in cls, of instances of inst, the other one in base -/
structure SpD where
  cls : Str
  inst : Str
  base : Str
  qual : Str
  params : Arguments
  body : List Stmt
  scope : Scope
  dfl : List He.Dv := []
  m : Str := "__init__"
def mAd (K : Frag) (x m : Str) : Addr := He.ma K (He.ga K x) m
def fnYm (K : Frag) (x m : Str) : FnY := match K.lookup (mAd K x m) with
  | some ⟨_, _, .func fd, _⟩ => some (fd.qualname, fd.params, fd.body, fd.scope, fd.globals, fd.closure.map (·.1), fd.builtins)
  | _ => none
def SpD.x (d : SpD) : XcD := ⟨d.cls, d.qual, d.params, d.body, d.scope⟩
def SpD.val (d : SpD) : FnY := d.x.val
def SpD.fdB (K : Frag) (file : Str) (d : SpD) : Bool := match K.lookup (mAd K d.cls d.m) with
  | some ⟨_, _, .func fd, _⟩ => (match fd.closure with
    | [(_, cc)] => (match K.lookup cc with
      | some ⟨_, _, .cell (some (.ref D)), _⟩ => D == He.ga K d.cls
      | _ => false)
    | _ => false) && (match fd.code with
    | .ref cda => codeIn K (.ref cda) d.qual && (match K.lookup cda with
      | some ⟨_, _, .fields vs, _⟩ => (match (vs[2]? : Option Value) with
        | some (.str fl _) => fl == file
        | _ => false)
      | _ => false)
    | _ => false) && (decide (fd.name = d.m) && He.dflB K fd.defaults (d.dfl.map (He.Dv.v K)))
  | _ => false
def SpD.ok (K : Frag) (file : Str) (d : SpD) : Bool := d.fdB K file && ((clsIn K (He.ga K d.inst)).isSome && ((clsIn K (He.ga K d.cls)).isSome && (decide (mroIn K (He.ga K d.inst) (.ref (He.ga K d.cls)) = some true) &&
  (decide (nsIn K cStatics "thirdparty.any" = some none) && (decide (ks_superIn K (He.ga K d.inst) (He.ga K d.cls) d.m = some (some (.ref (mAd K d.base d.m)))) && (decide (typeIn K (.ref (mAd K d.base d.m)) = some (.type "function")) &&
  (fnIn K (mAd K d.base d.m) && decide (mAd K d.inst d.m = mAd K d.cls d.m))))))))
theorem SpD.knownM {P : Program} {K : Frag} {mg : Str → Option Value} {d : SpD} (e : fnYm K d.cls d.m = d.val) (c : d.ok K P.main.file = true) (hmg : mg "super" = none) (htop : (P.main.scope.names.lookup ("super" : Str)).isSome = false)
    (hks : d.scope.names.lookup ("super" : Str) = some .globalImplicit) (hkc : d.scope.names.lookup ("__class__" : Str) = some .free) {ar : Arg} {ars : List Arg} (hpa : d.params.posonlyargs ++ d.params.args = ar :: ars) (hka : d.scope.names.lookup ar.arg = some .local ∨ d.scope.names.lookup ar.arg = some .cell) :
    ∃ fd cc c, SupM P K mg (He.ga K d.cls) (He.ga K d.inst) (mAd K d.cls d.m) (mAd K d.base d.m) d.m fd ⟨d.m, d.qual, d.params, d.body, d.scope, [("__class__", cc)], c⟩ ((d.params.posonlyargs ++ d.params.args).map (·.arg)) (d.dfl.map (He.Dv.v K)) := by
  unfold SpD.ok at c
  obtain ⟨c0, c⟩ := He.ba c
  obtain ⟨c1, c⟩ := He.ba c
  obtain ⟨c2, c⟩ := He.ba c
  obtain ⟨c3, c⟩ := He.ba c
  obtain ⟨c4, c⟩ := He.ba c
  obtain ⟨c5, c⟩ := He.ba c
  obtain ⟨c6, c⟩ := He.ba c
  obtain ⟨c7, c8⟩ := He.ba c
  unfold SpD.fdB at c0
  unfold fnYm at e
  cases q : K.lookup (mAd K d.cls d.m) with
  | none => rw [q] at c0; cases c0
  | some o =>
    obtain ⟨oc, od, dt, osl⟩ := o
    rw [q] at c0 e
    cases dt with
    | func fd =>
      obtain ⟨n1, n2, n3, n4, n5, n6, n7, n8, n9, n10, n11, n12, n13, n14, n15⟩ := fd
      have e2 : (some (n2, n3, n4, n5, n6, n7.map (·.1), n15) : FnY) = (some (d.qual, d.params, .stmts d.body, d.scope, mainGlobals, ["__class__"], builtinsNs) : FnY) := e
      simp only [Option.some.injEq, Prod.mk.injEq] at e2
      obtain ⟨h2, h3, h4, h5, h6, h7, h8⟩ := e2
      subst h2 h3 h4 h5 h6 h8
      dsimp only at c0
      obtain ⟨kab, kc⟩ := He.ba c0
      obtain ⟨kA, kB⟩ := He.ba kab
      obtain ⟨kc, kd⟩ := He.ba kc
      have kc := of_decide_eq_true kc
      subst kc
      clear kab c0
      have kd := He.dflB_ok kd
      cases n7 with
      | nil => cases h7
      | cons p r =>
        cases r with
        | cons _ _ => simp at h7
        | nil =>
          obtain ⟨nm, cc⟩ := p
          have hn : nm = ("__class__" : Str) := by
            simp only [List.map_cons, List.map_nil, List.cons.injEq, and_true] at h7
            exact h7
          subst hn
          dsimp only at kA
          cases n13 with
          | ref cda =>
            dsimp only at kB
            obtain ⟨k4, k5⟩ := He.ba kB
            cases qc : K.lookup cc with
            | none => rw [qc] at kA; cases kA
            | some oc2 =>
              obtain ⟨a1, a2, a3, a4⟩ := oc2
              rw [qc] at kA
              cases a3 with
              | cell v =>
                cases v with
                | none => cases kA
                | some v =>
                  cases v with
                  | ref D =>
                    have hD : D = He.ga K d.cls := eq_of_beq kA
                    subst hD
                    cases qd : K.lookup cda with
                    | none => rw [qd] at k5; cases k5
                    | some od2 =>
                      obtain ⟨b1, b2, b3, b4⟩ := od2
                      rw [qd] at k5
                      cases b3 with
                      | fields vs =>
                        dsimp only at k5
                        cases qv : vs[2]? with
                        | none => rw [qv] at k5; cases k5
                        | some v2 =>
                          rw [qv] at k5
                          cases v2 with
                          | str fl tf =>
                            have hfl : fl = P.main.file := eq_of_beq k5
                            subst hfl
                            obtain ⟨cdD, hcd⟩ := Option.isSome_iff_exists.mp c2
                            exact ⟨_, cc, cda, ⟨oc, od, osl, n8, n9, n10, n11, n12, n14, rfl, q, kd⟩, k4, ⟨cc, a1, a2, a4, rfl, qc⟩, ⟨ar, ars.map (·.arg), by rw [hpa]; rfl, by rw [hpa]; rfl, hka⟩, ⟨b1, b2, vs, b4, P.main.file, tf, qd, qv, by simp⟩, ⟨cdD, hcd⟩, Option.isSome_iff_exists.mp c1,
                              of_decide_eq_true c3, hks, hkc, hmg, htop, of_decide_eq_true c4, of_decide_eq_true c5, of_decide_eq_true c6, c7⟩
                          | _ => cases k5
                      | _ => cases k5
                  | _ => cases kA
              | _ => cases kA
          | _ => cases kB
    | _ => cases c0
theorem SpD.known {P : Program} {K : Frag} {mg : Str → Option Value} {d : SpD} (hm : d.m = ("__init__" : Str)) (e : fnYm K d.cls d.m = d.val) (c : d.ok K P.main.file = true) (hmg : mg "super" = none) (htop : (P.main.scope.names.lookup ("super" : Str)).isSome = false)
    (hks : d.scope.names.lookup ("super" : Str) = some .globalImplicit) (hkc : d.scope.names.lookup ("__class__" : Str) = some .free) {ar : Arg} {ars : List Arg} (hpa : d.params.posonlyargs ++ d.params.args = ar :: ars) (hka : d.scope.names.lookup ar.arg = some .local ∨ d.scope.names.lookup ar.arg = some .cell) :
    ∃ fd cc c, SupP P K mg (He.ga K d.cls) (He.ga K d.inst) (xcAd K d.cls) (xcAd K d.base) fd ⟨"__init__", d.qual, d.params, d.body, d.scope, [("__class__", cc)], c⟩ ((d.params.posonlyargs ++ d.params.args).map (·.arg)) (d.dfl.map (He.Dv.v K)) := by
  obtain ⟨fd, cc, c2, Y⟩ := SpD.knownM e c hmg htop hks hkc hpa hka
  rw [hm] at Y
  exact ⟨fd, cc, c2, Y.p⟩
end
open PySem PySem.Spec PyProof.Rows L2 Evl
section
variable {fa : List He.Fa} {fn : List He.DefD} {es : List (PySem.W.Frag → Bool)} {xs : List XcD} {gs : List GeD} {sp : List SpD} {file : Str} {K : PySem.W.Frag} {mg : Str → Option Value}
end
end Sim

/-! askers: calls that read the lent list and may raise; loops over a lent list that an expression gives -/
namespace Sim
open PySem L2 Evl
section
variable {K : PySem.W.Frag} {C : Addr} {σ : L2.St} {G0 H0 G H G2 H2 W : Hp} {ls : List Addr} {cs : Cs} {l : Addr} {ta : TA} {X : XK} {te to tl : TE} {α β κ ι γ : Type} {R : Rep α} {S : Rep β} {T : Rep γ} {B : Rep κ} {A : AR ι} {D : Ends} {tz tu : TS} {g : TG} {ns : List Str} {fl : α → List Pd}
/-! ### tests, opened -/
end
end Sim

/-! askers handed to defs; parts of mixed data -/
namespace Sim
open PySem L2 Evl
section
variable {K : PySem.W.Frag} {C : Addr} {σ : L2.St} {G0 H0 G H G2 H2 W : Hp} {ls : List Addr} {cs : Cs} {l : Addr} {ta : TA} {X : XK} {te to tl : TE} {α β κ ι γ : Type} {R : Rep α} {S : Rep β} {T : Rep γ} {B : Rep κ} {A : AR ι} {D : Ends} {tz tu : TS}
/-! mixed data -/
end
end Sim

/-! a field written again -/
namespace Sim
open PySem L2 Evl
section
variable {K : PySem.W.Frag} {C : Addr} {σ : L2.St} {G0 H0 G H : Hp} {ls : List Addr} {cs : Cs} {l : Addr} {te : TE} {β : Type} {S : Rep β} {D : Ends} {tz : TS} {ns : List Str}
end
end Sim

/-! cells of any kind, lent to a def that only reads them -/
namespace Sim
open PySem L2 Evl
section
variable {σ : L2.St} {G0 H0 G H G1 H1 W : Hp} {ls : List Addr} {cs : Cs} {l : Addr} {cp0 : CP} {te : TE} {α β : Type} {R : Rep α} {S : Rep β} {cp : β → CP}
structure LentP (G W : Hp) (l : Addr) (cp : CP) : Prop where
  n : G l = none
  at_ : ∃ o, W l = some o ∧ cp.p G o
theorem LentP.up (L : LentP G W l cp0) (e' : Ex W H) (u : Up G H G1 H1) : LentP G1 H1 l cp0 := by
  obtain ⟨o, h2, h3⟩ := L.at_
  exact ⟨u.nw _ (by rw [e' _ _ h2]; simp) L.n, o, u.hh _ _ (e' _ _ h2), cp0.mono u.gg h3⟩
variable {K : PySem.W.Frag} {C : Addr} {ta : TA} {X : XK} {κ ι δ γ : Type} {A : AR ι} {B : Rep κ} {D : Ends} {tz : TS} {ns : List Str}
/-! dict(d), d a dict -/
end
end Sim

/-! TableAsker: an __init__ with a default; arguments read at the heap itself -/
namespace Sim
open PySem PySem.Spec PyProof.Rows L2 Evl
section
variable {K : PySem.W.Frag} {C : Addr} {σ : L2.St} {G0 H0 G H G2 H2 W : Hp} {ls : List Addr} {cs : Cs} {l : Addr} {ta tb tc : TE} {td : TE} {X : XK} {α β δ κ ι : Type} {R : Rep ι} {S : Rep β} {S2 : Rep δ} {B : Rep κ} {D : Ends} {tz : TS} {ns : List Str}
theorem EC.s {κ : Type} [DecidableEq κ] {kf : κ → Key} {R : Rep α} {m : Option (List (κ × α))} (sc : R.Sc) (e : Ex G W) (h : EC ta σ W W (cM kf R) m) : EC ta σ G W (cM kf R) m := fun x hx H e1 e2 Q q =>
  h x hx H e2 e2 Q fun p H2 G2 np u w => by
    have up : Up G H G H2 := Up.same e1 u.hh
    refine q p H2 G np up ⟨up.gh, fun c hc => ?_, w.nd⟩
    obtain ⟨h1, o, h2, ws, rfl, h4⟩ := w.at_ c hc |> fun z => by
      rw [List.mem_singleton.mp hc] at z
      exact z
    rw [List.mem_singleton.mp hc]
    refine ⟨?_, _, h2, ws, rfl, Paired.mapP h4 fun _ _ q => ⟨q.1, sc q.2⟩⟩
    cases qz : G p with
    | none => rfl
    | some o => rw [e1 p o qz] at np; cases np
end
end Sim

/-! a comprehension whose test changes cells -/
namespace Sim
open PySem L2 Evl
section
variable {K : PySem.W.Frag} {σ : L2.St} {G0 H0 G H : Hp} {ls : List Addr} {cs : Cs} {tl te : TE} {tt : TT} {α γ : Type} {R : Rep α} {T : Rep γ} {D : Ends} {tz : TS}
end
end Sim
namespace Sim
open PySem L2 Evl
section
variable {K : PySem.W.Frag} {σ : L2.St} {G0 H0 G H : Hp} {ls : List Addr} {cs : Cs} {l : Addr} {α κ : Type} [DecidableEq κ] {kf : κ → Key} {R : Rep α} {Q : VK}
end
end Sim

/-! functions made by a lambda; their captured cells laid in the heap as known things -/
namespace LamF
open PySem PySem.Spec PyProof.Rows L2 LamX NdefX
/-- a cell, known as it stands -/
def CelO (o : Obj) : HO := .frz o (.ext fun _ => True)
def unlayH (cs : List (Addr × Obj)) (H : Hp) : Hp := fun a => match cs.lookup a with
  | some _ => none
  | none => H a
section
variable {cs : List (Addr × Obj)} {H H' H0 : Hp} {a : Addr} {o : Obj}
end
section
variable {P : Program} {w : World} {cs : List (Addr × Obj)} {H H' H0 H1 : Hp} {h h' B : Heap} {fs : List Addr}
end
section
variable {P : Program} {w : World} {CX : CXT} {outer : List Env} {H : Hp} {s s' : Shared} {Q : VK} {E : XK} {cs : List (Addr × Obj)}
end
end LamF

/-! lambdas: made, called, handed over -/
namespace LamF
open PySem PySem.Spec PyProof.Rows L2 LamX NdefX
/-- a function that a lambda made -/
structure LF where
  qual : Str
  params : Arguments
  body : Expr
  scope : Scope
  cl : List (Str × Addr)
  c : Addr
abbrev LF.obj (F : LF) (pm ctv : Value) : Obj := PySem.W.kla_obj "<lambda>" F.qual F.params F.body F.scope F.cl pm F.c ctv
def FnL (f : Addr) (F : LF) : HO := .ext fun h => ∃ pm ctv, h.get? f = some (F.obj pm ctv)
/-- the table's codes bear this name -/
structure Cds (H : Hp) (q : Str) (ps : Array Value) : Prop where
  ok : TriplesOk ps.toList
  cd : ∀ (pos : Pos) (cv : Value), codeAmong pos ps.toList = some cv → ∃ c, cv = .ref c ∧ H c = some (CodeO c q)
section
variable {X : Cx} {pins : List (Addr × Obj)} {σ : L2.St} {H : Hp} {s : Shared}
end
/-! ### a call with the own cells of these names laid -/
section
variable {X : Cx} {pins : List (Addr × Obj)} {σ : L2.St} {H : Hp} {s : Shared} {fr : List Str}
theorem mem_look {α β : Type} [BEq α] [LawfulBEq α] : ∀ {l : List (α × β)} {a : α} {b : β}, l.lookup a = some b → (a, b) ∈ l
  | [], _, _, h => by cases h
  | (x, y) :: l, a, b, h => by
    rw [List.lookup_cons] at h
    cases e : a == x with
    | true =>
      rw [e] at h
      cases h
      rw [eq_of_beq e]
      exact List.mem_cons_self ..
    | false => rw [e] at h; exact List.mem_cons_of_mem _ (mem_look h)
theorem look_mem {α β : Type} [BEq α] [LawfulBEq α] : ∀ {l : List (α × β)} {a : α} {b : β}, (a, b) ∈ l → ∃ b', l.lookup a = some b'
  | (x, y) :: l, a, b, h => by
    rw [List.lookup_cons]
    cases e : a == x with
    | true => exact ⟨y, rfl⟩
    | false =>
      rcases List.mem_cons.mp h with z | z
      · cases z
        rw [beq_self_eq_true] at e
        cases e
      · exact look_mem z
end
section
variable {X : Cx} {pins : List (Addr × Obj)} {σ : L2.St} {H : Hp} {s : Shared} {fr : List Str} {cs : List (Addr × Obj)}
end
section
variable {X : Cx} {CX : CXT} {k : Nat} {f : Addr} {fd : FuncData} {ps : List Str} {sp : Sp} {E : L2.St → XK} {x : Str} {p pos : Pos} {e : Expr} {es : List Expr} {t : TA} {fr : List Str}
end
end LamF

/-! functions made by a lambda: called; handed back by a def -/
namespace LamF
open PySem PySem.Spec PyProof.Rows L2 LamX NdefX
/-- the function F stands at f, its captured names fr hold us -/
structure Clos (H : Hp) (f : Addr) (F : LF) (fr : List Str) (us : List V) : Prop where
  at_ : H f = some (FnL f F)
  co : H F.c = some (CodeO F.c F.qual)
  ce : ∀ (i : Nat) (y : Str), fr[i]? = some y → ∃ c o u v, F.cl.lookup y = some c ∧ H c = some (CelO o) ∧ o.data = .cell (some u) ∧ us[i]? = some v ∧ RelV v u
  only : ∀ y c, F.cl.lookup y = some c → y ∈ fr
  inj : ∀ x y c, F.cl.lookup x = some c → F.cl.lookup y = some c → x = y
  ln : us.length = fr.length
theorem Clos.ex {H H' : Hp} {f : Addr} {F : LF} {fr : List Str} {us : List V} (c : Clos H f F fr us) (e : ∀ a o, H a = some o → H' a = some o) : Clos H' f F fr us :=
  ⟨e _ _ c.at_, e _ _ c.co, fun i y h => let ⟨a, o, u, v, h1, h2, h3⟩ := c.ce i y h; ⟨a, o, u, v, h1, e _ _ h2, h3⟩, c.only, c.inj, c.ln⟩
/-- its cells as they stand -/
def celsH (F : LF) (fr : List Str) (H : Hp) : List (Addr × Obj) := fr.filterMap fun y => F.cl.lookup y >>= fun c => match H c with
  | some (.frz o _) => some (c, o)
  | _ => none
section
variable {H : Hp} {f : Addr} {F : LF} {fr : List Str} {us : List V}
theorem Clos.mem (C : Clos H f F fr us) {c : Addr} {o : Obj} (e : (celsH F fr H).lookup c = some o) : H c = some (CelO o) ∧ ∃ (i : Nat) (y : Str), fr[i]? = some y ∧ F.cl.lookup y = some c := by
  obtain ⟨y, hy, e⟩ := List.mem_filterMap.mp (mem_look e)
  obtain ⟨i, hi⟩ := List.getElem?_of_mem hy
  obtain ⟨c1, o1, u, v, h1, h2, h3⟩ := C.ce i y hi
  rw [h1] at e
  simp only [Option.bind_eq_bind, Option.bind_some] at e
  rw [h2] at e
  cases e
  exact ⟨h2, i, y, hi, h1⟩
end
/-- a thing that can be called: what its call promises -/
def CalOk (P : Program) (w : World) (K : PySem.W.Frag) (mg : Str → Option Value) (base : Heap) (CX : CXT) (k : Nat) (f : Addr) (sp : Sp) : Prop :=
  ∀ (A : Around) (outer : List Env) (s : Shared) (H : Hp) (us : List Value) (vs : List V) (Q : VK) (E : XK), Room k A → Env0 P w K mg base A outer s H → Vals vs us → sp vs H Q E → codeAny (model P w) A (.call (.ref f) ⟨us, []⟩) (CR CX outer P w H s Q E) s
theorem CalOk.mono {P : Program} {w : World} {K : PySem.W.Frag} {mg : Str → Option Value} {base : Heap} {CX : CXT} {j k : Nat} {f : Addr} {sp : Sp} (h : CalOk P w K mg base CX j f sp) (hjk : j ≤ k) : CalOk P w K mg base CX k f sp :=
  fun A outer s H us vs Q E hr => h A outer s H us vs Q E (hr.mono hjk)
theorem CalOk.imp {P : Program} {w : World} {K : PySem.W.Frag} {mg : Str → Option Value} {base : Heap} {CX : CXT} {k : Nat} {f : Addr} {sp sp' : Sp} (h : CalOk P w K mg base CX k f sp) (i : ∀ vs H Q E, sp' vs H Q E → sp vs H Q E) : CalOk P w K mg base CX k f sp' :=
  fun A outer s H us vs Q E hr e0 r q => h A outer s H us vs Q E hr e0 r (i _ _ _ _ q)
section
variable {CX : CXT} {P : Program} {w : World} {K : PySem.W.Frag} {mg : Str → Option Value} {base : Heap} {N ps fr psg : List Str} {F : LF} {f g : Addr} {fdg : FuncData} {k : Nat} {spg : Sp} {x : Str} {e : Expr} {es : List Expr} {p0 pos : Pos} {js : List Nat} {us : List V}
end
/-! ### x(..), x a local name that holds something that can be called -/
/-- an instance, or a function that a lambda made -/
def Cb (H : Hp) (f : Addr) : Prop := (∃ F, H f = some (FnL f F)) ∨ ∃ C dx fs, H f = some (.ins C dx fs)
/-- it stands as before -/
def Cb2 (H H1 : Hp) (f : Addr) : Prop := (∀ F, H f = some (FnL f F) → H1 f = some (FnL f F)) ∧ ∀ C dx fs, H f = some (.ins C dx fs) → ∃ gs, H1 f = some (.ins C dx gs)
theorem Cb2.of {H H1 : Hp} {f : Addr} (e : ∀ o, H f = some o → H1 f = some o) : Cb2 H H1 f := ⟨fun F h => e _ h, fun C dx fs h => ⟨fs, e _ h⟩⟩
section
variable {X : Cx} {CX : CXT} {k i : Nat} {E : L2.St → XK} {x : Str} {p pos : Pos} {e : Expr} {es : List Expr} {t : TA}
end
end LamF

/-! a def that hands back a lambda; defs whose code object is told -/
namespace LamF
open PySem PySem.Spec PyProof.Rows L2 LamX NdefX
/-- the code object of the def at f, its table -/
def codOf (K : PySem.W.Frag) (f : Addr) : Addr := match K.lookup f with
  | some ⟨_, _, .func fd, _⟩ => (match fd.code with
    | .ref c => c
    | _ => 0)
  | _ => 0
def tabOf (K : PySem.W.Frag) (f : Addr) : Addr := match K.lookup (codOf K f) with
  | some ⟨_, _, .fields vs, _⟩ => (match (vs[11]? : Option Value) with
    | some (.ref P) => P
    | _ => 0)
  | _ => 0
section
variable {P : Program} {w : World} {K : PySem.W.Frag} {mg : Str → Option Value} {base : Heap} {x qual : Str} {params : Arguments} {body : List Stmt} {scope : Scope} {f : Addr} {fd : FuncData} {CX : CXT} {N ps : List Str} {k : Nat} {sp : Sp}
end
end LamF

/-! things that are asked: functions and objects called with a name; what they change is a state -/
namespace Sim
open PySem PySem.Spec PyProof.Rows L2 Evl LamX LamF NdefX
theorem Cds.mono {G G' : Hp} {q : Str} {ps : Array Value} (e : Ex G G') (c : Cds G q ps) : Cds G' q ps := ⟨c.ok, fun p cv h => let ⟨a, h1, h2⟩ := c.cd p cv h; ⟨a, h1, e _ _ h2⟩⟩
/-- the table of a def's code object, as a cell -/
def cTab (q : Str) : CP := ⟨fun G o => ∃ ps, o = .tbl ps ∧ Cds G q ps, fun e ⟨ps, h1, h2⟩ => ⟨ps, h1, Cds.mono e h2⟩⟩
/-! ### asked -/
section
variable (P : Program) (w : World) (K : PySem.W.Frag) (mg : Str → Option Value) (base : Heap) (k : Nat)
/-- what asking promises: never raises / may raise -/
def PAsk {κ : Type} (ci : κ → Cs) (ask : κ → Str → Option (Int × κ)) (G0 : Hp) : Sp := fun vs H Q _ => ∃ G s nm x s', vs = [.str nm] ∧ Ex G0 G ∧ Wd G H (ci s) ∧ ask s nm = some (x, s') ∧ ∀ H2 G2, Fr G H G2 H2 ((ci s).map (·.1)) → Wd G2 H2 (ci s') → Q (.int x) H2
def PAskX {κ : Type} (ci : κ → Cs) (ask : κ → Str → Option ((Xn ⊕ Int) × κ)) (G0 : Hp) : Sp := fun vs H Q E => ∃ G s nm r s', vs = [.str nm] ∧ Ex G0 G ∧ Wd G H (ci s) ∧ ask s nm = some (r, s') ∧
  (∀ e, r = .inl e → ∀ d H2 G2, Fr G H G2 H2 ((ci s).map (·.1)) → Wd G2 H2 (ci s') → Xat K G2 e d → E (.ref (He.ga K e.cls)) d H2) ∧ ∀ x, r = .inr x → ∀ H2 G2, Fr G H G2 H2 ((ci s).map (·.1)) → Wd G2 H2 (ci s') → Q (.int x) H2
structure AskP {κ : Type} (G : Hp) (f : Addr) (ci : κ → Cs) (ask : κ → Str → Option (Int × κ)) : Prop where
  cb : Cb G f
  ok : CalOk P w K mg base CX0 k f (PAsk ci ask G)
  fx : ∀ s s', (ci s).map (·.1) = (ci s').map (·.1)
structure AskX {κ : Type} (G : Hp) (f : Addr) (ci : κ → Cs) (ask : κ → Str → Option ((Xn ⊕ Int) × κ)) : Prop where
  cb : Cb G f
  ok : CalOk P w K mg base (L2.CX P w) k f (PAskX K ci ask G)
  fx : ∀ s s', (ci s).map (·.1) = (ci s').map (·.1)
end
section
variable {P : Program} {w : World} {K : PySem.W.Frag} {mg : Str → Option Value} {base : Heap} {k kk : Nat} {κ : Type} {ci : κ → Cs}
theorem cb_mono {G G' : Hp} {f : Addr} (e : Ex G G') (c : Cb G f) : Cb G' f := c.elim (fun ⟨F, h⟩ => .inl ⟨F, e _ _ h⟩) fun ⟨C, dx, fs, h⟩ => .inr ⟨C, dx, fs, e _ _ h⟩
theorem AskP.mono {ask : κ → Str → Option (Int × κ)} {G G' : Hp} {f : Addr} (e : Ex G G') (a : AskP P w K mg base k G f ci ask) : AskP P w K mg base k G' f ci ask :=
  ⟨cb_mono e a.cb, a.ok.imp fun vs H Q E ⟨G2, s, nm, x, s', h1, h2, h3⟩ => ⟨G2, s, nm, x, s', h1, e.trans h2, h3⟩, a.fx⟩
theorem AskX.mono {ask : κ → Str → Option ((Xn ⊕ Int) × κ)} {G G' : Hp} {f : Addr} (e : Ex G G') (a : AskX P w K mg base k G f ci ask) : AskX P w K mg base k G' f ci ask :=
  ⟨cb_mono e a.cb, a.ok.imp fun vs H Q E ⟨G2, s, nm, x, s', h1, h2, h3⟩ => ⟨G2, s, nm, x, s', h1, e.trans h2, h3⟩, a.fx⟩
variable {G0 H0 G H G2 H2 : Hp} {ls : List Addr} {cs : Cs} {f : Addr} {X : Cx} {σ : L2.St} {i : Nat} {CX : CXT}
end
/-! ### defs that ask -/
section
variable (P : Program) (w : World) (K : PySem.W.Frag) (mg : Str → Option Value) (base : Heap) (k : Nat)
end
/-! ### a function made by a lambda and handed over at once -/
/-- a list cell's content -/
def DnC (cp : CP) : Prop := ∀ {G : Hp} {cs : List (Addr × Obj)} {o : HO}, (∀ c o, cs.lookup c = some o → G c = some (CelO o)) → cp.p G o → cp.p (unlayH cs G) o
section
variable {G0 H0 G H G2 H2 : Hp} {ls : List Addr} {cs : Cs} {cels : List (Addr × Obj)}
end
/-- the data heap behind the making of a function -/
def lamG (G H H1 : Hp) : Hp := fun a => match H a with
  | none => H1 a
  | some _ => G a
section
variable {G0 H0 G H H1 : Hp} {ls : List Addr} {cs : Cs} {Pt fl : Addr} {F : LF} {ps0 ps : Array Value} {j : Nat} {q : Str}
theorem lamG_new {a : Addr} (h : H a = none) : lamG G H H1 a = H1 a := by unfold lamG; rw [h]
theorem lamG_old {a : Addr} {o : HO} (h : H a = some o) : lamG G H H1 a = G a := by unfold lamG; rw [h]
/-- the cells behind the making of a function: the table is written -/
theorem Wo.made (w : Wo G0 H0 ls G H cs) (hc : cs[j]? = some (Pt, cTab q)) (ex : ∀ b o, b ≠ Pt → H b = some o → H1 b = some o) (tb : H1 Pt = some (.tbl ps)) (cd : Cds (lamG G H H1) q ps) : Wo G0 H0 ls (lamG G H H1) H1 cs ∧ Ex G (lamG G H H1) := by
  obtain ⟨gP, oP, hP, _⟩ := w.w.getAt hc
  have eG : Ex G (lamG G H H1) := fun a o h => by
    rw [lamG_old (w.ex a o h)]
    exact h
  have e1 : Ex (lamG G H H1) H1 := fun a o h => by
    cases z : H a with
    | none => rw [lamG_new z] at h; exact h
    | some o2 =>
      rw [lamG_old z] at h
      have h2 := w.ex a o h
      exact ex a o (fun e => by rw [e, gP] at h; cases h) h2
  refine ⟨⟨⟨e1, fun c hm => ?_, w.w.nd⟩, ⟨w.f.gg.trans eG, fun a o h1 h2 => ?_, fun a h1 h2 => ?_, fun a h => ?_⟩, w.lo⟩, eG⟩
  · obtain ⟨h1, o, h2, h3⟩ := w.w.at_ c hm
    refine ⟨by rw [lamG_old h2]; exact h1, ?_⟩
    by_cases e : c.1 = Pt
    · have hcc : c = (Pt, cTab q) := by
        obtain ⟨i, hi⟩ := List.getElem?_of_mem hm
        have a1 : (cs.map (·.1))[i]? = some Pt := by rw [List.getElem?_map, hi, ← e]; rfl
        have a2 : (cs.map (·.1))[j]? = some Pt := by rw [List.getElem?_map, hc]; rfl
        have := nodup_ix w.w.nd a1 a2
        subst this
        rw [hi] at hc
        exact Option.some.inj hc
      rw [hcc]
      exact ⟨_, tb, ps, rfl, cd⟩
    · exact ⟨o, ex _ _ e h2, c.2.mono eG h3⟩
  · refine ex a o (fun e => ?_) (w.f.fr a o h1 h2)
    have hm : (Pt, cTab q) ∈ cs := List.mem_of_getElem? hc
    rcases w.lo _ hm with z | z
    · exact h2 (by rw [e]; exact z)
    · rw [e] at h1
      rw [show H0 Pt = none from z] at h1
      cases h1
  · have h3 := w.f.nw a h1 h2
    have h4 := w.f.st a h1
    cases z : H a with
    | none => exact absurd z h4
    | some o => rw [lamG_old z]; exact h3
  · have h4 := w.f.st a h
    cases z : H a with
    | none => exact absurd z h4
    | some o =>
      by_cases e : a = Pt
      · rw [e, tb]; simp
      · rw [ex a o e z]; simp
end
end Sim

/-! x = f(.., lambda ..): the function asks a list of the def's own -/
namespace Sim
open PySem PySem.Spec PyProof.Rows L2 Evl LamX LamF NdefX
section
variable {X : Cx} {kk : Nat} {σ : L2.St} {G0 H0 G H : Hp} {ls : List Addr} {cs : Cs} {ta : TA} {ι α γ : Type} {A : AR ι} {R : Rep γ} {Ra : Rep α} {D : Ends} {tz : TS}
end
end Sim

/-! calls that change cells at any places; the tail of the cells; lambdas handed over, printed by gen.py -/
namespace Sim
open PySem PySem.Spec PyProof.Rows L2 Evl LamX LamF NdefX
section
variable {σ : L2.St} {G0 H0 G H G2 H2 : Hp} {ls : List Addr} {cs : Cs}
/-! ### the tail -/
variable {P : Program} {w : World} {K : PySem.W.Frag} {mg : Str → Option Value} {base : Heap} {k : Nat} {κ : Type} {ci : κ → Cs} {f : Addr}
/-- where the captured names stand -/
def FrAt (X : Cx) (σ : L2.St) : List Str → List V → Prop
  | [], [] => True
  | y :: fr, u :: us => (∃ jx : Nat, X.N[jx]? = some y ∧ σ[jx]? = some (some u) ∧ Vis X.env.scope y) ∧ FrAt X σ fr us
  | _, _ => False
theorem FrAt.at_ {X : Cx} : ∀ {fr : List Str} {us : List V}, FrAt X σ fr us → ∀ (n : Nat) (y : Str), fr[n]? = some y → ∃ (jx : Nat) (v : V), X.N[jx]? = some y ∧ σ[jx]? = some (some v) ∧ Vis X.env.scope y ∧ us[n]? = some v
  | [], [], _, n, y, h => by cases h
  | _ :: _, _ :: _, ⟨⟨jx, h1, h2, h3⟩, _⟩, 0, y, h => by cases h; exact ⟨jx, _, h1, h2, h3, rfl⟩
  | _ :: _, _ :: _, ⟨_, hr⟩, n + 1, y, h => FrAt.at_ hr n y h
theorem FrAt.len {X : Cx} : ∀ {fr : List Str} {us : List V}, FrAt X σ fr us → us.length = fr.length
  | [], [], _ => rfl
  | _ :: _, _ :: _, ⟨_, h⟩ => congrArg (· + 1) (FrAt.len h)
end
end Sim

/-! the hook with tables of code objects; the law's end with tables -/
namespace Sim
open PySem PySem.Spec PyProof.Rows L2 Evl LamX LamF NdefX
/-- a def with lambdas: its code object, its table, the lambda's qualified name -/
structure TbD where
  at_ : Str × Option Str
  q : Str
def TbD.c (K : PySem.W.Frag) (d : TbD) : Addr × Addr := (codOf K (He.fAd K d.at_), tabOf K (He.fAd K d.at_))
end Sim

/-! a for over a list that is a cell and stays as it is; and in a test that changes cells -/
namespace Sim
open PySem L2 Evl
section
variable {K : PySem.W.Frag} {σ : L2.St} {G0 H0 G H G2 H2 : Hp} {ls : List Addr} {cs : Cs} {l : Addr} {cp cp' : CP} {tu tz : TS} {t u : TT} {g : TG} {D : Ends} {α : Type} {R : Rep α}
def DnAll : Cs → Prop
  | [] => True
  | c :: cs => DnC c.2 ∧ DnAll cs
theorem DnAll.at_ : ∀ {cs : Cs}, DnAll cs → ∀ c ∈ cs, DnC c.2
  | _ :: _, ⟨h1, h2⟩, c, h => by
    rcases List.mem_cons.mp h with e | e
    · rw [e]; exact h1
    · exact DnAll.at_ h2 c e
end
end Sim

/-! sides: values that are called with what is asked -/
namespace LamF
open PySem PySem.Spec PyProof.Rows L2 LamX NdefX
section
variable {X : Cx} {CX : CXT} {k : Nat} {pins : List (Addr × Obj)} {σ : L2.St} {H : Hp} {s : Shared} {a C dx : Addr} {fs : List (Str × V)} {v : V} {A : Around} {E : Value → Shared → Prop}
/-- what can be called: an instance, a function of a lambda, a def -/
def Cbk (K : PySem.W.Frag) (H : Hp) (f : Addr) : Prop := Cb H f ∨ PySem.W.keepIn K (.ref f) = true
end
end LamF
namespace Sim
open PySem PySem.Spec PyProof.Rows L2 Evl LamX LamF NdefX
/-! ### an object with an attribute -/
def rAt {β : Type} (K : PySem.W.Frag) (S : Rep β) (f : Str) : Rep β := ⟨fun G v x => ∃ a C dx fs u, v = .ref a ∧ G a = some (.ins C dx fs) ∧ Cls K C ∧ NoAttr K C f ∧ fs.lookup f = some u ∧ S.r G u x,
  fun e ⟨a, C, dx, fs, u, h1, h2, h3, h4, h5, h6⟩ => ⟨a, C, dx, fs, u, h1, e _ _ h2, h3, h4, h5, S.mono e h6⟩⟩
theorem cbk_mono {K : PySem.W.Frag} {G G2 : Hp} {f : Addr} (e : Ex G G2) (h : Cbk K G f) : Cbk K G2 f := h.elim (fun z => .inl (cb_mono e z)) .inr
/-! ### sides -/
section
variable (P : Program) (w : World) (K : PySem.W.Frag) (mg : Str → Option Value) (base : Heap) (j : Nat)
/-- what calling a side with the thing asked promises; o: the order of the thing asked -/
def PSd {ω : Type} (rO : Rep ω) (sem : ∀ {κ : Type}, (κ → Str → Option ((Xn ⊕ Int) × κ)) → ω → κ → Option ((Xn ⊕ Int) × κ)) (G0 : Hp) : Sp := fun vs H Q E => ∃ (κ : Type) (ci : κ → Cs) (ask : κ → Str → Option ((Xn ⊕ Int) × κ)) (G : Hp) (fk : Addr) (o : ω) (s : κ) (r : Xn ⊕ Int) (s' : κ),
  vs = [.ref fk] ∧ Ex G0 G ∧ (rAt K rO "order").r G (.ref fk) o ∧ AskX P w K mg base j G fk ci ask ∧ Wd G H (ci s) ∧ sem ask o s = some (r, s') ∧
  (∀ e, r = .inl e → ∀ d H2 G2, Fr G H G2 H2 ((ci s).map (·.1)) → Wd G2 H2 (ci s') → Xat K G2 e d → E (.ref (He.ga K e.cls)) d H2) ∧ ∀ x, r = .inr x → ∀ H2 G2, Fr G H G2 H2 ((ci s).map (·.1)) → Wd G2 H2 (ci s') → Q (.int x) H2
structure SideOk {ω : Type} (rO : Rep ω) (k : Nat) (G : Hp) (f : Addr) (sem : ∀ {κ : Type}, (κ → Str → Option ((Xn ⊕ Int) × κ)) → ω → κ → Option ((Xn ⊕ Int) × κ)) : Prop where
  cb : Cbk K G f
  ok : CalOk P w K mg base (L2.CX P w) k f (PSd P w K mg base j rO (fun a => sem a) G)
end
section
variable {P : Program} {w : World} {K : PySem.W.Frag} {mg : Str → Option Value} {base : Heap} {j k kk : Nat} {κ ω : Type} {ci : κ → Cs} {G0 H0 G H G2 H2 : Hp} {ls : List Addr} {cs : Cs} {f fk : Addr} {rO : Rep ω} {σ : L2.St}
variable {sem : ∀ {κ : Type}, (κ → Str → Option ((Xn ⊕ Int) × κ)) → ω → κ → Option ((Xn ⊕ Int) × κ)}
theorem SideOk.mono (e : Ex G G2) (h : SideOk P w K mg base j rO k G f (fun a => sem a)) : SideOk P w K mg base j rO k G2 f (fun a => sem a) :=
  ⟨cbk_mono e h.cb, h.ok.imp fun vs H Q E ⟨κ, ci, ask, G, fk, o, s, r, s', a1, a2, a3⟩ => ⟨κ, ci, ask, G, fk, o, s, r, s', a1, e.trans a2, a3⟩⟩
end
end Sim

/-! what sides are: objects, lambdas, defs; things that are asked: objects, lambdas -/
namespace Sim
open PySem PySem.Spec PyProof.Rows L2 Evl LamX LamF NdefX
section
variable {P : Program} {w : World} {K : PySem.W.Frag} {mg : Str → Option Value} {base : Heap} {j k kk : Nat} {κ ω : Type} {ci : κ → Cs} {G0 H0 G H G2 H2 : Hp} {ls : List Addr} {cs : Cs} {f fk a C f0 : Addr} {rO : Rep ω} {σ : L2.St} {fd : FuncData} {ps : List Str}
end
section
variable {X : Cx} {kk : Nat} {σ : L2.St} {G0 H0 G H : Hp} {ls : List Addr} {cs : Cs} {ta : TA} {ι α γ : Type} {A : AR ι} {R : Rep γ} {Ra : Rep α} {D : Ends} {tz : TS}
end
end Sim

/-! methods whose arguments change cells; a call that hands on what is asked and may raise -/
namespace Sim
open PySem PySem.Spec PyProof.Rows L2 Evl LamX LamF NdefX
section
variable {P : Program} {w : World} {K : PySem.W.Frag} {mg : Str → Option Value} {base : Heap} {j k kk : Nat} {κ ω α β : Type} {ci : κ → Cs} {G0 H0 G H G2 H2 W : Hp} {ls : List Addr} {cs : Cs} {f fk a C f0 : Addr} {rO : Rep ω} {σ : L2.St} {fd : FuncData} {ps ns : List Str} {to : TE} {ta : TA}
end
end Sim

/-! a | b of two own classes with the same method -/
namespace PySem.W
open PySem PySem.Spec PyProof.Rows PySem.Calls
variable {prog : Program} {w : World} {A : Around} {E : Value → Shared → Prop} {s : Shared} {K : Frag} {x C D L f g : Addr} {h₀ : Heap} {m : Str → Option Value} {ox : Obj} {od : Option Obj}
end PySem.W
namespace L2
open PySem PySem.Spec PyProof.Rows
section
variable {X : Cx} {CX : CXT} {k : Nat} {f C : Addr} {fd : FuncData} {ps : List Str} {sp : Sp} {pins : List (Addr × Obj)} {σ : St} {H : Hp} {s : Shared} {ta tb : TE}
end
end L2
namespace Sim
open PySem PySem.Spec PyProof.Rows L2 Evl LamX LamF NdefX
end Sim

/-! reversed; values that are an int or a text -/
namespace Sim
open PySem PySem.Spec PyProof.Rows L2 Evl
section
variable {K : PySem.W.Frag} {σ : L2.St} {G0 H0 G H G2 H2 W : Hp} {ls : List Addr} {cs : Cs} {ta : TA} {te : TE} {α β : Type} {R : Rep α} {D : Ends} {tu tz : TS} {g : TG}
end
end Sim

/-! a def that hands back a lambda: its function, told of the data heap -/
namespace Sim
open PySem PySem.Spec PyProof.Rows L2 Evl LamX LamF NdefX
section
variable {P : Program} {w : World} {K : PySem.W.Frag} {mg : Str → Option Value} {base : Heap} {CX : CXT} {k j : Nat} {f Pt : Addr} {fd : FuncData} {ps fr : List Str} {q : Str} {lp : Arguments} {lb : Expr} {lsc : Scope} {ws : List V → List V} {tb : Cs}
end
end Sim

/-! askers asked where nothing is raised; their cell at any place -/
namespace Sim
open PySem PySem.Spec PyProof.Rows L2 Evl LamX LamF NdefX
section
variable {P : Program} {w : World} {K : PySem.W.Frag} {mg : Str → Option Value} {base : Heap} {k : Nat} {κ : Type} {ci : κ → Cs} {G0 H0 G H G2 H2 Gq Hq : Hp} {ls : List Addr} {cs csq : Cs} {fk : Addr} {σ : L2.St}
end
end Sim

/-! a lambda whose body asks its own parameter -/
namespace LamF
open PySem PySem.Spec PyProof.Rows L2 LamX NdefX
section
variable {CX : CXT} {P : Program} {w : World} {K : PySem.W.Frag} {mg : Str → Option Value} {base : Heap} {N ps fr : List Str} {F : LF} {f : Addr} {k i : Nat} {x : Str} {e : Expr} {es : List Expr} {p pos : Pos} {us : List V}
end
end LamF

/-! what asks in a lambda's body -/
namespace Sim
open PySem PySem.Spec PyProof.Rows L2 Evl LamX LamF NdefX
section
variable {P : Program} {w : World} {K : PySem.W.Frag} {mg : Str → Option Value} {base : Heap} {N ps fr : List Str} {F : LF} {f fk : Addr} {k i jn : Nat} {us : List V} {G G2 H H2 : Hp} {κ : Type} {ci : κ → Cs} {σ : L2.St}
end
end Sim

/-! a def called at the slots, opened; a global name as data -/
namespace Sim
open PySem PySem.Spec PyProof.Rows L2 Evl
section
variable {σ : L2.St} {G W H : Hp} {α : Type} {R : Rep α}
end
section
variable {K : PySem.W.Frag} {C : Addr} {σ : L2.St} {G0 H0 G H : Hp} {ls : List Addr} {cs : Cs} {X : XK} {α β δ κ ι : Type} {R : Rep ι} {S : Rep β} {S2 : Rep δ} {B : Rep κ} {ns : List Str}
end
end Sim

set_option maxHeartbeats 2000000
/-! in: data in a list, own objects in a list; dicts compared; tuples of several parts -/
namespace GQ
open PySem PySem.SeqAt
open AutoSeq1 (wpAny_loadPart')
open MeetsSeq MeetsSeq2 MeetsSeq3 SeqRoads2
section
variable {prog : Program} {w : World} {A : Around} {R : Result → Shared → Prop}
end
section
variable {prog : Program} {w : World} {A : Around} {E : Value → Shared → Prop} {s : Shared}
end
end GQ
namespace L2
open PySem PySem.Spec PyProof.Rows SlX
section
variable {X : Cx} {k : Nat} {f C : Addr} {fd : FuncData} {ps : List Str} {sp : Sp} {pins : List (Addr × Obj)} {σ : St} {H : Hp} {s : Shared}
end
end L2

set_option maxHeartbeats 2000000
/-! the same, told by mirrors -/
namespace L2
open PySem PySem.Spec PyProof.Rows SlX
end L2

set_option maxHeartbeats 2000000
namespace Sim
open PySem PySem.Spec PyProof.Rows L2 Evl SlX
section
variable {K : PySem.W.Frag} {C : Addr} {σ : L2.St} {G0 H0 G H G2 H2 W Gn Wn : Hp} {ls : List Addr} {cs : Cs} {l : Addr} {ta tb tc tl te ti tk : TE} {tt : TT} {α β δ κ ι γ : Type} {R : Rep α} {S : Rep β} {T : Rep γ} {A : AR ι}
/-! ### what a value stands for is one thing -/
/-! ### x in xs of own objects -/
/-! ### x in xs of data -/
/-! ### dicts of whole numbers compared -/
/-! ### tuples of several parts -/
/-! ### an item of a list cell -/
/-! ### {k: v for k in ks} -/
end
end Sim

/-! what a call gives is new: lists of dicts that are cleared later -/
namespace Sim
open PySem PySem.Spec PyProof.Rows L2 Evl
section
variable {K : PySem.W.Frag} {σ : L2.St} {G0 H0 G H G2 H2 W Gw Hw : Hp} {ls : List Addr} {cs cs0 : Cs} {l : Addr} {te : TE} {α β κ γ : Type} {R : Rep α} {S : Rep β} {D : Ends} {tz : TS}
theorem E.ws {m : Option α} (sc : R.Sc) (e : Ex G W) (h : E te σ G W R m) : E te σ W W R m := fun x hx H e1 e2 Q q =>
  h x hx H (e.trans e1) e1 Q fun v H2 G2 u r => q v H2 W ⟨Ex.refl _, e1.trans u.hh, u.hh, fun _ _ z => z⟩ (sc r)
/-- cells that stay as they are -/
def cEq (o : HO) : CP := ⟨fun _ o' => o' = o, fun _ h => h⟩
def Fixed (G : Hp) (cs cs' : Cs) : Prop := Paired (fun (c c' : Addr × CP) => c.1 = c'.1 ∧ ∃ o, c'.2 = cEq o ∧ c.2.p G o) cs cs'
theorem Fixed.map : ∀ {cs cs' : Cs}, Fixed G cs cs' → cs'.map (·.1) = cs.map (·.1)
  | _, _, .nil => rfl
  | _, _, .cons h t => by rw [List.map_cons, List.map_cons, h.1, Fixed.map t]
theorem Fixed.sc {cs cs' : Cs} (F : Fixed G cs cs') : ∀ c ∈ cs', ∀ o, c.2.p G2 o → c.2.p Gw o := by
  induction F with
  | nil => intro c hc; cases hc
  | cons h t ih =>
    intro c hc o ho
    rcases List.mem_cons.mp hc with rfl | hc
    · obtain ⟨_, o2, e, _⟩ := h
      rw [e] at ho ⊢
      exact ho
    · exact ih c hc o ho
end
section
variable {K : PySem.W.Frag} {σ : L2.St} {G0 H0 G H G2 H2 W : Hp} {ls : List Addr} {cs : Cs} {ta : TA} {α ι : Type} {R : Rep α} {A : AR ι}
end
end Sim

set_option maxHeartbeats 2000000
/-! name = {k: v for ..}: the name is set before the block goes -/
namespace L2
open PySem PySem.Spec PyProof.Rows
open PySem.Calls
section
variable {X : Cx}
end
end L2
namespace Sim
open PySem PySem.Spec PyProof.Rows L2 Evl SlX
section
variable {K : PySem.W.Frag} {C : Addr} {α : Type} {R : Rep α}
end
end Sim

/-! the hook over any choice of addresses; addresses reached, found by marks in one number (no dedup of lists) -/
namespace Sim
open PySem PySem.Spec PyProof.Rows L2 Evl LamX LamF NdefX
end Sim

set_option maxHeartbeats 2000000
/-! a method with defaults, called with all its arguments -/
namespace Sim
open PySem PySem.Spec PyProof.Rows L2 Evl
end Sim

set_option maxHeartbeats 2000000
/-! cells read as data by a call, and taken out of the data again behind it: what the call gave does not lean on them -/
namespace Sim
open PySem PySem.Spec PyProof.Rows L2 Evl SlX
section
variable {D : List Addr} {W Z G G0 H0 H : Hp} {ls : List Addr} {cs : Cs} {σ : L2.St} {te : TE} {α β : Type} {R : Rep α} {S : Rep β} {κ : Type}
/-- without what stands at D -/
def rmL (D : List Addr) (G : Hp) : Hp := fun a => if a ∈ D then none else G a
/-- with what W has at D -/
def adL (D : List Addr) (W G : Hp) : Hp := fun a => if a ∈ D then W a else G a
theorem rm_out {a : Addr} (h : a ∉ D) : rmL D G a = G a := if_neg h
theorem rm_of {a : Addr} {o : HO} (h : G a = some o) (hn : a ∉ D) : rmL D G a = some o := by rw [rm_out hn, h]
/-- the value leans on nothing at D -/
def Off (D : List Addr) (W Z : Hp) (R : Rep α) (x : α) : Prop := ∀ (G : Hp) (v : V), Ex Z G → (∀ a ∈ D, G a = W a) → R.r G v x → R.r (rmL D G) v x
theorem Off.sc (h : R.Sc) (x : α) : Off D W Z R x := fun _ _ _ _ r => h r
/-- a value made while the cells at D were data: without them again -/
theorem E.off {m : Option α} (hD : ∀ a ∈ D, G a = none) (hW : ∀ a ∈ D, W a ≠ none) (ho : ∀ x, m = some x → Off D W (adL D W G) R x) (h : E te σ (adL D W G) W R m) : E te σ G W R m := fun x hx H e e' Q q => by
  refine h x hx H (fun a o ha => ?_) e' Q fun v H2 G2 u r => q v H2 (rmL D G2) ⟨fun a o ha => ?_, fun a o ha => ?_, u.hh, fun a h1 h2 => ?_⟩ (ho x hx G2 v u.gg (fun a ha => ?_) r)
  · unfold adL at ha
    split at ha
    · exact e' a o ha
    · exact e a o ha
  · have hn : a ∉ D := fun z => by rw [hD a z] at ha; cases ha
    exact rm_of (u.gg a o (by unfold adL; rw [if_neg hn]; exact ha)) hn
  · unfold rmL at ha
    split at ha
    · cases ha
    · exact u.gh a o ha
  · unfold rmL
    split
    · rfl
    · rename_i hn
      exact u.nw a h1 (by unfold adL; rw [if_neg hn]; exact h2)
  · cases q : W a with
    | none => exact absurd q (hW a ha)
    | some o => exact u.gg a o (by unfold adL; rw [if_pos ha]; exact q)
/-! ### kinds of values -/
theorem Off.m [DecidableEq κ] {kf : κ → Key} {d : List (κ × α)} (hD : ∀ a ∈ D, ∀ ws, W a ≠ some (.dK ws)) (hs : R.Sc) : Off D W Z (rM kf R) d := fun G v hZ hG ⟨a, ws, h1, h2, h3⟩ => by
  have hn : a ∉ D := fun z => hD a z ws (by rw [← hG a z]; exact h2)
  exact ⟨a, ws, h1, rm_of h2 hn, Paired.mapP h3 fun _ _ h => ⟨h.1, hs h.2⟩⟩
theorem pr_both {P : V → α → Prop} {Q : V → β → Prop} : ∀ {vs : List V} {xs : List α} {ys : List β}, Paired P vs xs → Paired Q vs ys → xs ≠ [] → ∃ v x y, P v x ∧ Q v y ∧ x ∈ xs ∧ y ∈ ys
  | _, _, _, .nil, .nil, h => absurd rfl h
  | _, _, _, .cons h1 t1, .cons h2 t2, _ => ⟨_, _, _, h1, h2, List.mem_cons_self .., List.mem_cons_self ..⟩
/-- no value stands for both -/
def Dsj (R : Rep α) (S : Rep β) : Prop := ∀ {G : Hp} {v : V} {x : α} {y : β}, R.r G v x → S.r G v y → False
/-- a list that is not empty, of things unlike those that the lists at D hold -/
theorem Off.l {xs : List α} (hD : ∀ a ∈ D, ∀ vs, W a = some (.lst vs) → ∃ ys : List β, Paired (S.r Z) vs ys) (hd : Dsj R S) (hne : xs ≠ []) (ho : ∀ x ∈ xs, Off D W Z R x) : Off D W Z (rL R) xs := fun G v hZ hG ⟨a, vs, h1, h2, h3⟩ => by
  have hn : a ∉ D := fun z => by
    obtain ⟨ys, k⟩ := hD a z vs (by rw [← hG a z]; exact h2)
    obtain ⟨v, x, y, r1, r2, _, _⟩ := pr_both h3 (Paired.mapP k fun _ _ => S.mono hZ) hne
    exact hd r1 r2
  have key : ∀ {vs : List V} {xs : List α}, Paired (R.r G) vs xs → (∀ x ∈ xs, Off D W Z R x) → Paired (R.r (rmL D G)) vs xs := by
    intro vs xs h
    induction h with
    | nil => intro _; exact .nil
    | cons h t ih => intro ho; exact .cons (ho _ (List.mem_cons_self ..) G _ hZ hG h) (ih fun x hx => ho x (List.mem_cons_of_mem _ hx))
  exact ⟨a, vs, h1, rm_of h2 hn, key h3 ho⟩
theorem Off.o {x : Option α} (h : ∀ y, x = some y → Off D W Z R y) : Off D W Z (rO R) x := fun G v hZ hG r => by
  cases x with
  | none => exact r
  | some y => exact h y rfl G v hZ hG r
def OffP (D : List Addr) (W Z : Hp) (p : Pd) : Prop := ∀ (G : Hp) (v : V), Ex Z G → (∀ a ∈ D, G a = W a) → p.p G v → p.p (rmL D G) v
theorem Off.obj {C : Addr} {ns : List Str} {fl : α → List Pd} {x : α} (hD : ∀ a ∈ D, ∀ dx fs, W a ≠ some (.ins C dx fs)) (hp : ∀ p ∈ fl x, OffP D W Z p) : Off D W Z (rObj C ns fl) x := fun G v hZ hG ⟨a, dx, fs, h1, h2, h3, h4⟩ => by
  have hn : a ∉ D := fun z => hD a z dx fs (by rw [← hG a z]; exact h2)
  have key : ∀ {vs : List V} {ps : List Pd}, Paired (fun v (q : Pd) => q.p G v) vs ps → (∀ p ∈ ps, OffP D W Z p) → Paired (fun v (q : Pd) => q.p (rmL D G) v) vs ps := by
    intro vs ps h
    induction h with
    | nil => intro _; exact .nil
    | cons h t ih => intro ho; exact .cons (ho _ (List.mem_cons_self ..) G _ hZ hG h) (ih fun x hx => ho x (List.mem_cons_of_mem _ hx))
  exact ⟨a, dx, fs, h1, rm_of h2 hn, h3, key h4 hp⟩
theorem Dsj.l {C : Addr} {fl : β → Ps} : Dsj (rL R) (rSl C fl) := fun ⟨a, vs, h1, h2, _⟩ ⟨b, dx, us, k1, k2, _⟩ => by
  rw [h1] at k1
  cases k1
  rw [h2] at k2
  unfold SlO at k2
  cases k2
theorem Dsj.i {C : Addr} {fl : β → Ps} : Dsj rI (rSl C fl) := fun {_ v x _} h ⟨b, dx, us, k1, _⟩ => by
  have h : v = .int x := h
  rw [h] at k1
  cases k1
theorem Dsj.b {C : Addr} {fl : β → Ps} : Dsj rB (rSl C fl) := fun {_ v x _} h ⟨b, dx, us, k1, _⟩ => by
  have h : v = .bl x := h
  rw [h] at k1
  cases k1
theorem Dsj.o {C : Addr} {fl : β → Ps} (hd : Dsj R (rSl C fl)) : Dsj (rO R) (rSl C fl) := fun {_ v x _} h k => by
  cases x with
  | none =>
    obtain ⟨b, dx, us, k1, _⟩ := k
    have h : v = .non := h
    rw [h] at k1
    cases k1
  | some y => exact hd h k
end
end Sim

set_option maxHeartbeats 2000000
/-! an object that changes, with a list of its own: made, called, read -/
namespace Sim
open PySem PySem.Spec PyProof.Rows L2 Evl SlX
section
variable {K : PySem.W.Frag} {C C2 : Addr} {σ : L2.St} {G0 H0 G H G2 H2 W : Hp} {ls : List Addr} {cs : Cs} {l p : Addr} {ta : TA} {te : TE} {X : XK} {α β κ ι ρ : Type} {R : Rep α} {S : Rep β} {B : Rep κ} {A : AR ι} {D : Ends} {tz : TS} {ns : List Str}
section
variable {i j : Nat} {ps : List Pd} {ys : List κ}
end
end
end Sim

set_option maxHeartbeats 2000000
/-! dicts of data compared; tuples that may be a def's default; an object made with its default -/
namespace L2
open PySem PySem.Spec PyProof.Rows SlX
section
variable {K : PySem.W.Frag} {H : Hp}
end
end L2
namespace Sim
open PySem PySem.Spec PyProof.Rows L2 Evl SlX
section
variable {K : PySem.W.Frag} {C : Addr} {σ : L2.St} {G0 H0 G H G2 H2 W : Hp} {ls : List Addr} {cs : Cs} {l p : Addr} {ta : TA} {te tl : TE} {X : XK} {α β κ ι ρ : Type} {R : Rep α} {S : Rep β} {B : Rep κ} {A : AR ι} {D : Ends} {tz : TS} {ns : List Str}
/-! ### dicts of data -/
/-! ### tuples that may stand among a def's defaults -/
/-! ### a method with its default left out -/
end
end Sim

set_option maxHeartbeats 2000000
/-! objects told by some of their attributes; an object with three new lists of texts (an outlook) -/
namespace Sim
open PySem PySem.Spec PyProof.Rows L2 Evl SlX
section
variable {K : PySem.W.Frag} {C : Addr} {σ : L2.St} {G0 H0 G H G2 H2 W Z : Hp} {D : List Addr} {ls : List Addr} {cs : Cs} {l p x : Addr} {ta : TA} {te to : TE} {X : XK} {α β γ κ ι ρ : Type} {R : Rep α} {S : Rep β} {T : Rep γ} {A : AR ι} {ns all nw : List Str} {fl : α → List (Str × Pd)}
/-! ### all cells become data -/
def frz (G H : Hp) (cs : Cs) : Hp := fun a => if a ∈ cs.map (·.1) then H a else G a
/-! ### the outlook's shape -/
section
variable {α0 α1 : Type} {S0 : Rep α0} {S1 : Rep α1} {g0 : β → α0} {g1 g2 : β → α1} {u1 u2 u3 : β → List Str} {N : Addr → Prop} {f : ι → Option β} {mi : Option ι}
end

/-! ### a paper and a list of texts read as data -/
def NotIt (D : List Addr) (W Z : Hp) (R : Rep α) : Prop := ∀ a ∈ D, ∀ vs, W a = some (.lst vs) → ∀ {G' : Hp} {v : V} {x : α}, v ∈ vs → Ex Z G' → R.r G' v x → False
theorem pr_mem {P : V → β → Prop} : ∀ {vs : List V} {ys : List β} {v : V}, Paired P vs ys → v ∈ vs → ∃ y, P v y
  | _, _, _, .cons h t, hm => by
    rcases List.mem_cons.mp hm with rfl | hm
    · exact ⟨_, h⟩
    · exact pr_mem t hm
/-- the lists at D hold what B is, or texts -/
def Lsts (D : List Addr) (W Z : Hp) (B : Rep κ) : Prop := ∀ a ∈ D, ∀ vs, W a = some (.lst vs) → (∃ ys : List κ, Paired (B.r Z) vs ys) ∨ ∃ ys : List Str, Paired (rS.r Z) vs ys
theorem Lsts.not {B : Rep κ} (h : Lsts D W Z B) (d1 : Dsj R B) (d2 : Dsj R rS) : NotIt D W Z R := fun a ha vs e {G' v x} hm hZ r => by
  rcases h a ha vs e with ⟨ys, k⟩ | ⟨ys, k⟩
  · obtain ⟨y, hy⟩ := pr_mem k hm
    exact d1 r (B.mono hZ hy)
  · obtain ⟨y, hy⟩ := pr_mem k hm
    exact d2 r (Rep.mono _ hZ hy)
section
variable {q : Addr} {i j k : Nat} {C2 : Addr} {B : Rep κ} {ys : List κ} {xs : List Str} {ps : List Pd}
end
end
end Sim

set_option maxHeartbeats 4000000
/-! an __init__ whose first statement is super().__init__(..), with own captured names -/
namespace Sim
open PySem PySem.Spec PyProof.Rows L2 PySem.W PySem.Calls NdefX
section
variable {M : Model} {A : Around} {E : Value → Shared → Prop} {s₀ s : Shared} {m cm : Str → Option Value} {env : Env} {own : List (Str × Addr)}
end
section
variable {M : Model} {A : Around} {E : Value → Shared → Prop} {s : Shared}
end
section
variable {CX : CXT} {P : Program} {w : World} {K : Frag} {mg : Str → Option Value} {base : Heap} {N ps psg : List Str} {F : NF} {C D f g : Addr} {fd fdg : FuncData} {k : Nat} {sp spg : Sp} {e : Expr} {es : List Expr} {rest : List Stmt} {p0 p1 p2 p3 p4 : Pos} {pl : Sem Bool}
end
end Sim

set_option maxHeartbeats 2000000
/-! list(reversed(a list)) -/
namespace RT
open PySem PySem.Spec PyProof.Rows
section
variable {prog : Program} {w : World} {A : Around} {E : Value → Shared → Prop} {s : Shared}
end
section
variable {prog : Program} {w : World} {A : Around} {E : Value → Shared → Prop} {s : Shared}
end
end RT
namespace L2
open PySem PySem.Spec PyProof.Rows RT
section
variable {X : Cx}
end
end L2
namespace Sim
open PySem PySem.Spec PyProof.Rows L2 Evl SlX
section
variable {K : PySem.W.Frag} {σ : L2.St} {G H W : Hp} {te : TE} {α : Type} {R : Rep α}
end
end Sim

set_option maxHeartbeats 2000000
/-! a dict walked while it is locked; dicts read whether they are locked or not -/
namespace Sim
open PySem PySem.Spec PyProof.Rows L2 Evl SlX
section
variable {K : PySem.W.Frag} {C : Addr} {σ : L2.St} {G0 H0 G H G2 H2 W : Hp} {ls : List Addr} {cs : Cs} {l p a : Addr} {ta : TA} {te td ti tx : TE} {X : XK} {α β κ ι ρ : Type} {R : Rep α} {S : Rep β} {D : Ends} {tz : TS} {ns all : List Str} {kf : κ → Key} {od : Obj} {ws : List (Key × V)}
section
variable [DecidableEq κ]
end
/-! ### locking keeps what is known -/
end
end Sim

/-! a | b, a of an own class, b of one, too, or a function; pairs of classes; a lambda that asks -/
namespace PySem.W
open PySem PySem.Spec PyProof.Rows PySem.Calls
variable {prog : Program} {w : World} {A : Around} {E : Value → Shared → Prop} {s : Shared} {K : Frag} {x C L f : Addr} {h₀ : Heap} {m : Str → Option Value} {ox : Obj} {od : Option Obj} {T : String}
end PySem.W
namespace L2
open PySem PySem.Spec PyProof.Rows
section
variable {X : Cx} {CX : CXT} {k : Nat} {f C : Addr} {fd : FuncData} {ps : List Str} {sp : Sp} {pins : List (Addr × Obj)} {σ : St} {H : Hp} {s : Shared} {ta tb : TE}
end
end L2
namespace Sim
open PySem PySem.Spec PyProof.Rows L2 Evl LamX LamF NdefX
section
variable {δ γ : Type} {cn : List Str} {nm : String} {D : Str} {K : PySem.W.Frag} {S : Rep δ} {T : Rep γ} {ob : δ → Bool} {σ : L2.St} {G W : Hp} {ta tb te : TE} {ma mb m : Option δ}
end
/-! ### one of two kinds -/
/-! ### lambda ask: ask(nm), as a side -/
section
variable {P : Program} {w : World} {K : PySem.W.Frag} {mg : Str → Option Value} {base : Heap} {fr ps N : List Str} {f : Addr} {F : LF} {G : Hp}
end
end Sim

/-! a dict lent to a making; a reading that may raise where nothing is raised -/
namespace Sim
open PySem PySem.Spec PyProof.Rows L2 Evl LamX LamF NdefX
section
variable {σ : L2.St} {G0 H0 G H G1 H1 W : Hp} {ls : List Addr} {cs : Cs} {l : Addr} {cp0 : CP} {te : TE} {α β ι κ : Type} {R : Rep α} {cp : β → CP} {C : Addr} {A : AR ι} {ns : List Str} {K : PySem.W.Frag} {T : Rep β}
end
end Sim

/-! dict(x), x a list (or a plain tuple) of pairs -/
namespace L2
open PySem PySem.Spec PyProof.Rows
section
variable {X : Cx} {pins : List (Addr × Obj)} {σ : St} {H : Hp} {s : Shared}
end
end L2
namespace Sim
open PySem PySem.Spec PyProof.Rows L2 Evl
section
variable {σ : L2.St} {G0 H0 G H W : Hp} {ls : List Addr} {cs : Cs} {l : Addr} {te : TE} {κ α : Type} [DecidableEq κ] {kf : κ → Key} {Sk : Rep κ} {R : Rep α} {K : PySem.W.Frag}
end
end Sim

/-! sides that are called with an asker whose list of asks is known -/
namespace Sim
open PySem PySem.Spec PyProof.Rows L2 Evl LamX LamF NdefX
abbrev Ql : Type := List (Str × Int)
abbrev AskQ : Type := Ql → Str → Option ((Xn ⊕ Int) × Ql)
def ciQ (la : Addr) : Ql → Cs := fun ys => [(la, cL (rP rS rI) ys)]
/-- the list of what was asked stands at this address -/
def rLa (K : PySem.W.Frag) : Rep Addr := rAt K rA "asks"
section
variable (P : Program) (w : World) (K : PySem.W.Frag) (mg : Str → Option Value) (base : Heap) (j : Nat)
def PSdq {ω : Type} (rO : Rep ω) (sem : AskQ → ω → Ql → Option ((Xn ⊕ Int) × Ql)) (G0 : Hp) : Sp := fun vs H Q E => ∃ (la : Addr) (ask : AskQ) (G : Hp) (fk : Addr) (o : ω) (s : Ql) (r : Xn ⊕ Int) (s' : Ql),
  vs = [.ref fk] ∧ Ex G0 G ∧ ((rAt K rO "order").r G (.ref fk) o ∧ (rLa K).r G (.ref fk) la) ∧ AskX P w K mg base j G fk (ciQ la) ask ∧ Wd G H (ciQ la s) ∧ sem ask o s = some (r, s') ∧
  (∀ e, r = .inl e → ∀ d H2 G2, Fr G H G2 H2 ((ciQ la s).map (·.1)) → Wd G2 H2 (ciQ la s') → Xat K G2 e d → E (.ref (He.ga K e.cls)) d H2) ∧ ∀ x, r = .inr x → ∀ H2 G2, Fr G H G2 H2 ((ciQ la s).map (·.1)) → Wd G2 H2 (ciQ la s') → Q (.int x) H2
structure SideOkq {ω : Type} (rO : Rep ω) (k : Nat) (G : Hp) (f : Addr) (sem : AskQ → ω → Ql → Option ((Xn ⊕ Int) × Ql)) : Prop where
  cb : Cbk K G f
  ok : CalOk P w K mg base (L2.CX P w) k f (PSdq P w K mg base j rO sem G)
end
section
variable {P : Program} {w : World} {K : PySem.W.Frag} {mg : Str → Option Value} {base : Heap} {j k kk : Nat} {ω : Type} {G0 H0 G H G2 H2 : Hp} {ls : List Addr} {cs : Cs} {f f0 fk C la : Addr} {rO : Rep ω} {σ : L2.St} {fd : FuncData} {ps : List Str}
variable {sem : AskQ → ω → Ql → Option ((Xn ⊕ Int) × Ql)}
theorem SideOkq.mono (e : Ex G G2) (h : SideOkq P w K mg base j rO k G f sem) : SideOkq P w K mg base j rO k G2 f sem :=
  ⟨cbk_mono e h.cb, h.ok.imp fun vs H Q E ⟨la, ask, G, fk, o, s, r, s', a1, a2, a3⟩ => ⟨la, ask, G, fk, o, s, r, s', a1, e.trans a2, a3⟩⟩
end
end Sim

/-! a comprehension that asks; the truth of a list -/
namespace Sim
open PySem PySem.Spec PyProof.Rows L2 Evl LamX LamF NdefX
section
variable {α γ κ : Type} {R : Rep α} {T : Rep γ} {K : PySem.W.Frag} {σ : L2.St} {G0 H0 G H W : Hp} {ls : List Addr} {cs : Cs} {tl te : TE} {j : Nat} {Q : VK}
end
end Sim

/-! a thing asked within a comprehension; slotted objects below laid cells -/
namespace LamF
open PySem PySem.Spec PyProof.Rows L2
end LamF
namespace Sim
open PySem PySem.Spec PyProof.Rows L2 Evl LamX LamF NdefX
section
variable {P : Program} {w : World} {K : PySem.W.Frag} {mg : Str → Option Value} {base : Heap} {σ : L2.St} {k : Nat} {G0 H0 G H G2 H2 : Hp} {ls : List Addr} {cs : Cs} {f : Addr}
end
end Sim

set_option maxHeartbeats 4000000
/-! super().m(..) at any place of an own class's def -/
namespace Sim
open PySem PySem.Spec PyProof.Rows L2 PySem.W PySem.Calls NdefX
section
variable {X : Cx} {c : Code} {st : Stmt} {rest : List Stmt} {t u : TS} {te : TE} {e : Expr}
end
section
variable {CX CX1 : CXT} {P : Program} {w : World} {K : Frag} {mg : Str → Option Value} {base : Heap} {N ps psg : List Str} {F : NF} {C D f g : Addr} {fd fdg : FuncData} {k : Nat} {sp spg : Sp} {e : Expr} {es : List Expr} {nm : Str} {p0 p1 p2 p3 : Pos} {pl : Sem Bool} {A : Around} {outer : List Env} {s0 : Shared} {H0 : Hp} {E : XK} {c : Code} {ta : TA}
end
end Sim

/-! list.extend by a list of data -/
namespace Sim
open PySem PySem.Spec PyProof.Rows L2 Evl
section
variable {σ : L2.St} {G0 H0 G H : Hp} {ls : List Addr} {cs : Cs} {l : Addr} {te : TE} {tz : TS} {D : Ends} {α : Type} {R : Rep α} {K : PySem.W.Frag}
end
end Sim

/-! an object made with a lent list and with effects in its arguments -/
namespace Sim
open PySem L2 Evl
section
variable {K : PySem.W.Frag} {C : Addr} {σ : L2.St} {G0 H0 G H : Hp} {ls : List Addr} {cs : Cs} {l : Addr} {X : XK} {Q : VK} {α ι κ : Type} {A : AR ι}
end
end Sim

/-! a tuple whose object is told (no dict of its own): tuple(list) makes one, dict(tuple) reads it -/
namespace L2
open PySem PySem.Spec PyProof.Rows
section
variable {X : Cx} {pins : List (Addr × Obj)} {σ : St} {H : Hp} {s : Shared}
end
end L2
namespace Sim
open PySem PySem.Spec PyProof.Rows L2 Evl
section
variable {σ : L2.St} {G0 H0 G H W : Hp} {ls : List Addr} {cs : Cs} {l : Addr} {te : TE} {κ α : Type} [DecidableEq κ] {kf : κ → Key} {Sk : Rep κ} {R : Rep α} {K : PySem.W.Frag}
end
end Sim

/-! a generator def called with keywords -/
namespace L2
open PySem PySem.Spec PyProof.Rows
section
variable {X : Cx} {k n : Nat} {f : Addr} {fd : FuncData} {ps ks : List Str} {sp : SpG} {E : XK} {x : Str} {p pos : Pos} {e : Expr} {es : List Expr} {kws : List Keyword} {t tk : TA} {g : List Value → List Value → List Value} {gV : List V → List V → List V}
end
end L2

/-! generators: if; the walk's lemmas; their promise -/
namespace L2
open PySem PySem.Spec PyProof.Rows GenW
end L2
namespace Sim
open PySem PySem.Spec PyProof.Rows L2 Evl
section
variable {K : PySem.W.Frag} {σ : L2.St} {G0 H0 G H G2 H2 W : Hp} {ls : List Addr} {cs : Cs} {l : Addr} {ta tb te tc : TE} {t : TT} {α β γ ι κ : Type} {R : Rep α} {S : Rep β} {A : AR ι} {D : GEnds} {ys : List V} {tu tv u : TGn}
end
section
variable {K : PySem.W.Frag} {C : Addr} {σ : L2.St} {G0 H0 G H G2 H2 : Hp} {ls : List Addr} {cs : Cs} {X : XK} {α κ ι : Type} {A : AR ι} {B : Rep κ} {ns : List Str}
end
end Sim

/-! a != b of an own class that has __eq__ alone -/
namespace L2
open PySem PySem.Spec PyProof.Rows
section
variable {X : Cx} {k : Nat} {f C : Addr} {fd : FuncData} {ps : List Str} {sp : Sp}
end
end L2
namespace Sim
open PySem PySem.Spec PyProof.Rows L2 Evl
end Sim

/-! told tuples: read in one way, and they stay below laid cells -/
namespace Sim
open PySem PySem.Spec PyProof.Rows L2 Evl
end Sim

/-! a, b = x, y; a pair of new dicts that a call gave, cleared later -/
namespace Sim
open PySem PySem.Spec PyProof.Rows L2 Evl
section
variable {K : PySem.W.Frag} {σ : L2.St} {G0 H0 G H G2 H2 W Gw Hw : Hp} {ls : List Addr} {cs cs0 : Cs} {l : Addr} {ta : TA} {α β κ ι : Type} {R : Rep α} {S : Rep β} {A : AR ι} {D : Ends} {tz : TS}
end
end Sim

/-! sorted(xs), xs a list of data that are alike -/
namespace Sim
open PySem PySem.Spec PySem.W PyProof.Rows L2 Evl
section
variable {K : PySem.W.Frag} {α : Type} {R : Rep α}
end
/-! ### what is alike -/
end Sim

/-! calls with keywords that may raise; a generator drained that may raise; a loop over a call that may raise -/
namespace L2
open PySem PySem.Spec PyProof.Rows
section
variable {X : Cx} {CX : CXT} {k n : Nat} {f : Addr} {fd : FuncData} {ps ks : List Str} {sp : Sp} {E : St → XK} {x : Str} {p pos : Pos} {e : Expr} {es : List Expr} {kws : List Keyword} {t tk : TA} {g : List Value → List Value → List Value} {gV : List V → List V → List V}
end
end L2
namespace Sim
open PySem PySem.Spec PyProof.Rows L2 Evl
section
variable {K : PySem.W.Frag} {σ : L2.St} {G0 H0 G H G2 H2 W : Hp} {ls : List Addr} {cs : Cs} {te : TE} {ta tk : TA} {α γ ι κ δ : Type} {R : Rep α} {T : Rep γ} {A : AR ι} {A2 : AR δ} {B : AR κ} {D : Ends} {n m' : Nat}
end
section
variable {K : PySem.W.Frag} {σ : L2.St} {G0 H0 G H G2 H2 W : Hp} {te : TE} {α β γ : Type} {R : Rep α} {S : Rep β} {T : Rep γ}
end
section
open PySem PySem.Spec PyProof.Rows L2 Evl LamX LamF NdefX
end
end Sim

/-! a changing object's method in an expression; a list of three new lists, written and cleared -/
namespace Sim
open PySem PySem.Spec PyProof.Rows L2 Evl SlX
section
variable {K : PySem.W.Frag} {C C2 : Addr} {σ : L2.St} {G0 H0 G H G2 H2 W : Hp} {ls : List Addr} {cs : Cs} {l p : Addr} {ta : TA} {te : TE} {X : XK} {α β κ ι ρ : Type} {R : Rep α} {S : Rep β} {B : Rep κ} {A : AR ι} {D : Ends} {tz : TS} {ns : List Str}
end
section
variable {K : PySem.W.Frag} {σ : L2.St} {G0 H0 G H G2 H2 W Gw Hw : Hp} {ls : List Addr} {cs cs0 : Cs} {l : Addr} {te t1 t2 t3 : TE} {ta : TA} {α β γ ι : Type} {R : Rep α} {R1 : Rep α} {R2 : Rep β} {R3 : Rep γ} {A : AR ι} {D : Ends} {tz : TS}
end
end Sim

/-! all cells read as data: a call that gives a number, a text or a truth value -/
namespace Sim
open PySem PySem.Spec PyProof.Rows L2 Evl
section
variable {K : PySem.W.Frag} {σ : L2.St} {G0 H0 G H : Hp} {ls : List Addr} {cs : Cs} {l p : Addr} {C : Addr} {ns : List String} {α β κ : Type} {B : Rep κ} {S : Rep β} {R : Rep α} {i j : Nat} {te : TE}
theorem all_G (w : Wo G0 H0 ls G H cs) : ∀ a ∈ cs.map (·.1), G a = none := fun a ha => by
  obtain ⟨c, hc, rfl⟩ := List.mem_map.mp ha
  exact (w.w.at_ c hc).1
theorem all_H (w : Wo G0 H0 ls G H cs) : ∀ a ∈ cs.map (·.1), H a ≠ none := fun a ha => by
  obtain ⟨c, hc, rfl⟩ := List.mem_map.mp ha
  obtain ⟨_, o, h, _⟩ := w.w.at_ c hc
  rw [h]
  simp
theorem E.all {m : Option α} (w : Wo G0 H0 ls G H cs) (sc : R.Sc) (h : E te σ (adL (cs.map (·.1)) H G) H R m) : E te σ G H R m := E.off (all_G w) (all_H w) (fun x _ => Off.sc sc x) h
end
end Sim

/-! a list lent to a def that gives a new list; lent to the making of an object with a list -/
namespace Sim
open PySem PySem.Spec PyProof.Rows L2 Evl SlX
section
variable {K : PySem.W.Frag} {C C2 : Addr} {σ : L2.St} {G0 H0 G H G2 H2 W : Hp} {ls : List Addr} {cs : Cs} {l p : Addr} {ta : TA} {te : TE} {X : XK} {α β κ ι ρ : Type} {R : Rep α} {S : Rep β} {B : Rep κ} {A : AR ι} {D : Ends} {tz : TS} {ns : List Str}
end
section
variable {K : PySem.W.Frag} {σ : L2.St} {G W : Hp} {l : Addr} {κ γ ι : Type} {T : Rep γ} {A : AR ι}
end
end Sim

/-! a static method with a star parameter -/
namespace L2
open PySem PySem.Spec PyProof.Rows
section
variable {X : Cx} {CX : CXT} {k : Nat} {f C p : Addr} {fd : FuncData} {ps : List Str} {sp : Sp} {E : St → XK} {x m : Str} {pos apos : Pos} {e o : Expr} {es : List Expr} {ta : TE} {t : TA}
variable {Ec : XK}
end
end L2
namespace Sim
open PySem PySem.Spec PyProof.Rows L2 Evl
section
variable {K : PySem.W.Frag} {σ : L2.St} {G H W : Hp} {ta t1 tr : TA} {te : TE} {α β γ : Type} {R : Rep α} {S : Rep β} {T : Rep γ} {C : Addr} {n : Nat}
end
end Sim

set_option maxHeartbeats 1000000
/-! a for over a generator: while the generator sleeps its consumer's frame changes. The context's s_0 is a ghost: made anew at each wake. -/
namespace GenF
open PySem PySem.Spec PyProof.Rows L2 GenW

/-- the generator's def, its call, the consumer's frame L, what is told of it -/
structure Gq where
  P : Program
  w : World
  K : PySem.W.Frag
  mg : Str → Option Value
  base : Heap
  N : List Str
  qual : Str
  scope : Scope
  f : Addr
  cd : Value
  A : Around
  outer : List Env
  E : XK
  pn : List (Addr × Obj)
  sc : Shared
  Hc : Hp
  L : Addr
  Rec : Heap → List Value → Prop
def Gq.cx (q : Gq) (s0 : Shared) (H0 : Hp) : Cx := gcxOf q.P q.w q.K q.mg q.base q.N q.qual q.scope q.f q.cd q.A q.outer s0 H0 q.E q.pn
def Gq.env (q : Gq) : Env := envOfC q.qual q.scope q.sc.heap.objs.size q.f q.cd
def Gq.n0 (q : Gq) : Nat := q.sc.heap.objs.size
def Sz (q : Gq) (s0 : Shared) : Prop := s0.heap.objs.size = q.sc.heap.objs.size
structure GqOk (q : Gq) : Prop where
  mem : q.L ∈ frs q.outer
  lt : q.L < q.n0
  frs : ∀ b ∈ frs q.outer, b < q.n0
  bsz : q.base.objs.size ≤ q.n0
  slots : ∀ (h h' : Heap) us, (∀ o, h.get? q.L = some o → ∃ sl, h'.get? q.L = some { o with slots := sl }) → q.Rec h us → q.Rec h' us
section
variable {q : Gq} {s0 s1 : Shared} {H0 H1 : Hp}
end

/-- the ghost of a segment that begins at s₀; ys is out -/
structure Gh (q : Gq) (s₀ : Shared) (ys : List V) (s0 : Shared) (H0 : Hp) : Prop where
  sz : Sz q s0
  hL : s0.heap.get? q.L = s₀.heap.get? q.L
  cu : Un (frs q.outer) [q.L] q.Hc H0 q.sc.heap s0.heap
  os : s0.os = q.sc.os
  tie : ∃ us, Vals ys us ∧ q.Rec s₀.heap us
def GI (q : Gq) (ip : List (Addr × Obj)) (s₀ : Shared) (ys : List V) (σ : L2.St) (H : Hp) (s : Shared) : Prop := ∃ s0 H0, Gh q s₀ ys s0 H0 ∧ Inv (q.cx s0 H0) ip σ H s
section
variable {q : Gq} {ip : List (Addr × Obj)} {s₀ s s' : Shared} {ys : List V} {σ : L2.St} {H H0 : Hp} {s0 : Shared} {x : V} {v : Value}
/-- L, up to slots -/
theorem Gh.slot (ok : GqOk q) (g : Gh q s₀ ys s0 H0) (I : Inv (q.cx s0 H0) ip σ H s) : ∀ o, s₀.heap.get? q.L = some o → ∃ sl, s.heap.get? q.L = some { o with slots := sl } := fun o e =>
  I.base.slot q.L o (g.hL.trans e) (I.ok.frf q.L ok.mem) ok.mem (fun z => by cases (show q.L ∈ ([] : List Addr) from z))
theorem Gh.tied (ok : GqOk q) (g : Gh q s₀ ys s0 H0) (I : Inv (q.cx s0 H0) ip σ H s) : ∃ us, Vals ys us ∧ q.Rec s.heap us := by
  obtain ⟨us, r, h⟩ := g.tie
  exact ⟨us, r, ok.slots _ _ us (g.slot ok I) h⟩
/-- from the call to here -/
theorem Gh.un (g : Gh q s₀ ys s0 H0) (I : Inv (q.cx s0 H0) ip σ H s) : Un (frs q.outer) [q.L] q.Hc H q.sc.heap s.heap :=
  g.cu.trans (Un.mono (fs := frs q.outer) (ex := []) I.base (fun _ z => z) fun _ z => by cases z)
end

/-! ### the protocol, statements -/
section
variable {q : Gq} {st : Stmt} {rest : List Stmt} {e : Expr} {yp pos : Pos} {te : TE}
/-! ### while -/
end
end GenF

set_option maxHeartbeats 1000000
/-! a generator def's promise to a for; the for that keeps the last item -/
namespace GenF
open PySem PySem.Spec PyProof.Rows L2 GenW

/-- the consumer may know this of a state of the run: from the call (s, H), within the segment from s₀ -/
structure Out (P : Program) (w : World) (outer : List Env) (H : Hp) (s : Shared) (L : Addr) (Rec : Heap → List Value → Prop) (s₀ : Shared) (ys : List V) (H1 : Hp) (s1 : Shared) : Prop where
  os : s1.os = s.os
  bare : AllBare s1.gens
  un : Un (frs outer) [L] H H1 s.heap s1.heap
  hok : HOk P w H1 s1.heap
  nL : H1 L = none
  slot : ∀ o, s₀.heap.get? L = some o → ∃ sl, s1.heap.get? L = some { o with slots := sl }
  tie : ∃ us, Vals ys us ∧ Rec s1.heap us
section
variable {q : Gq} {ip : List (Addr × Obj)} {s₀ s s' : Shared} {ys : List V} {σ : L2.St} {H : Hp}
theorem GI.out (ok : GqOk q) (h : GI q ip s₀ ys σ H s) : Out q.P q.w q.outer q.Hc q.sc q.L q.Rec s₀ ys H s := by
  obtain ⟨s0, H0, g, I⟩ := h
  refine ⟨I.os.trans g.os, I.bare, g.un I, I.hok, ?_, g.slot ok I, g.tied ok I⟩
  have hf : H0 q.L = none := I.ok.frf q.L ok.mem
  have hm := (I.ok.funs.mem ok.mem).2
  obtain ⟨o, ho, _⟩ := hm
  exact I.base.free q.L o ho hf (fun z => by cases (show q.L ∈ ([] : List Addr) from z))
end
end GenF

set_option maxHeartbeats 1000000
/-! for x in g(..): y = x -/
namespace GenF
open PySem PySem.Spec PyProof.Rows L2 GenW

theorem ns_fun {h : Heap} {a : Addr} {m m' : Str → Option Value} (x : h.Ns a m) (y : h.Ns a m') : m = m' := by
  obtain ⟨o, es, ep, e, d, _, f⟩ := x
  obtain ⟨o', es', ep', e', d', _, f'⟩ := y
  rw [e] at e'
  cases e'
  rw [d] at d'
  cases d'
  funext n
  rw [← f n, ← f' n]
section
variable {X : Cx} {pins : List (Addr × Obj)} {σ : L2.St} {H H1 : Hp} {s sc : Shared}
/-- a name's value told of the frame -/
theorem Inv.told {i : Nat} {x : Str} {v : V} {u : Value} {m : Str → Option Value} (I : Inv X pins σ H s) (hN : X.N.Nodup) (hi : X.N[i]? = some x) (hk : X.env.scope.names.lookup x = some .local) (hm : s.heap.Ns X.env.locals m) (e : m x = some u) (r : RelV v u) : Inv X pins (σ.set i (some v)) H s := by
  obtain ⟨m', hn, hl⟩ := id I.loc
  have hiσ : i < σ.length := by rw [I.len]; exact (List.getElem?_eq_some_iff.mp hi).1
  refine ⟨I.ok, I.os, I.bare, I.base, ⟨m', hn, fun j y v' e1 e2 e3 => ?_⟩, I.cell, I.free, I.freeC, I.pin, I.hok, by simpa using I.len⟩
  by_cases hj : j = i
  · subst hj
    rw [hi] at e1; cases e1
    rw [List.getElem?_set_self hiσ] at e2
    cases e2
    exact ⟨u, r, .inl ⟨hk, by rw [ns_fun hn hm]; exact e⟩⟩
  · rw [List.getElem?_set_ne (Ne.symm hj)] at e2
    exact hl j y v' e1 e2 e3
end
/-! ### the call -/
section
variable {X : Cx} {k : Nat} {f : Addr} {fd : FuncData} {ps : List Str} {sp : SpG} {dvs : List V} {ds : List Value} {x : Str} {p pos' : Pos} {E : XK}
/-! ### the loop -/
end
end GenF

/-! a for over a generator, told by data -/
namespace Sim
open PySem PySem.Spec PyProof.Rows L2 Evl
section
variable {K : PySem.W.Frag} {σ : L2.St} {G0 H0 G H : Hp} {ls : List Addr} {cs : Cs} {ta : TA} {α ι : Type} {R : Rep α} {A : AR ι} {D : Ends} {tz : TS}
end
end Sim

/-! f(.., lambda n: d[n]): the function asks a table, no state -/
namespace Sim
open PySem PySem.Spec PyProof.Rows L2 Evl LamX LamF NdefX
section
variable {P : Program} {w : World} {K : PySem.W.Frag} {mg : Str → Option Value} {base : Heap} {kk : Nat} {G G' : Hp} {f : Addr} {F : LF} {fr N : List Str} {vt : V} {tbl : List (Str × Int)} {x0 y0 : Str}
end
section
variable {X : Cx} {kk : Nat} {σ : L2.St} {G0 H0 G H : Hp} {ls : List Addr} {cs : Cs} {ta : TA} {ι α γ : Type} {A : AR ι} {R : Rep γ} {Q : VK}
end
end Sim

set_option maxHeartbeats 2000000
/-! a method that gives a new object that changes -/
namespace Sim
open PySem PySem.Spec PyProof.Rows L2 Evl SlX
section
variable {K : PySem.W.Frag} {C C2 : Addr} {σ : L2.St} {G0 H0 G H G2 H2 W : Hp} {ls : List Addr} {cs : Cs} {l p : Addr} {ta : TA} {to : TE} {X : XK} {α β κ ι ρ : Type} {R : Rep α} {S : Rep ρ} {B : Rep κ} {A : AR ι} {D : Ends} {tz : TS} {ns ns2 : List Str}
end
end Sim

/-! tuples of several unlike parts: their length -/
namespace Sim
open PySem PySem.Spec PyProof.Rows L2 Evl
end Sim

/-! tuples of several unlike parts: their length -/
namespace Sim
open PySem PySem.Spec PyProof.Rows L2 Evl
section
variable {K : PySem.W.Frag} {C C2 : Addr} {σ : L2.St} {G0 H0 G H G2 H2 W : Hp} {ls : List Addr} {cs : Cs} {l p : Addr} {ta : TA} {te : TE} {X : XK} {α β κ ι ρ : Type} {R : Rep α} {S : Rep β} {B : Rep κ} {A : AR ι} {ns : List Str}
end
end Sim

/-! an exception class without an own __init__: raised, and nothing else; a def called with its defaults -/
namespace Sim
open PySem PySem.Spec PyProof.Rows L2 Evl
section
variable {P : Program} {w : World} {K : PySem.W.Frag} {mg : Str → Option Value} {base : Heap}
end
end Sim

/-! a field of what a call gave -/
namespace Sim
open PySem PySem.Spec PyProof.Rows L2 Evl SlX
section
variable {K : PySem.W.Frag} {σ : L2.St} {G0 H0 G H : Hp} {ls : List Addr} {cs : Cs} {to : TE} {α β : Type} {S : Rep β} {C : Addr} {fl : α → List (Nat × Pd)} {Q : VK}
end
end Sim

set_option maxHeartbeats 2000000
/-! try: suite / finally: suite (the first one falls through or raises) -/
namespace L2
open PySem PySem.Spec PyProof.Rows
section
variable {X : Cx} {body : List Stmt} {f₀ : Stmt} {fs : List Stmt} {pos : Pos} {tb : WX → TS} {tf tfs : TS} {Wout : WX}
end
end L2

set_option maxHeartbeats 2000000
/-! groups of cells, lent or changed: what a method of an object with several parts that change promises -/
namespace Sim
open PySem PySem.Spec PyProof.Rows L2 Evl SlX
section
variable {K : PySem.W.Frag} {σ : L2.St} {G0 H0 G H G1 H1 G2 H2 W : Hp} {ls : List Addr} {cs cs0 : Cs} {l p C : Addr} {te ti tv : TE} {ta : TA} {α β γ κ ι ρ : Type} {R : Rep γ} {S : Rep β} {T : Rep γ} {B : Rep κ} {A : AR ι} {D : Ends} {tz : TS} {ns : List Str} {X : XK} {Q : VK}
/-! ### lent -/
/-! ### all of them read as data -/
/-! ### promises -/
variable {pa : α → Addr} {ci : α → ρ → Cs} {a : α} {r r' : ρ} {j : Nat} {ps : List Pd} {mi : Option ι} {i : ι} {me : Str}
/-! ### opened -/
/-! ### steps -/
end
end Sim

set_option maxHeartbeats 2000000
/-! sides that answer at any level of the thing asked -/
namespace Sim
open PySem PySem.Spec PyProof.Rows L2 Evl LamX LamF NdefX
section
variable (P : Program) (w : World) (K : PySem.W.Frag) (mg : Str → Option Value) (base : Heap)
end
end Sim

set_option maxHeartbeats 2000000
/-! more steps for objects with several parts that change -/
namespace Sim
open PySem PySem.Spec PyProof.Rows L2 Evl SlX
section
variable {K : PySem.W.Frag} {σ : L2.St} {G0 H0 G H G1 H1 G2 H2 W : Hp} {ls : List Addr} {cs cs0 cs2 : Cs} {l p C : Addr} {te ti tv : TE} {ta : TA} {α β γ κ ι ρ : Type} {R : Rep γ} {S : Rep β} {T : Rep γ} {B : Rep κ} {A : AR ι} {D : Ends} {tz tu : TS} {ns : List Str} {X : XK} {Q : VK} {g : TG}
end
end Sim

set_option maxHeartbeats 2000000
/-! a thing asked whose answering changes a group of cells -/
namespace Sim
open PySem PySem.Spec PyProof.Rows L2 Evl SlX LamX LamF NdefX
section
variable {P : Program} {w : World} {K : PySem.W.Frag} {mg : Str → Option Value} {base : Heap} {kl : Nat} {σ : L2.St} {G0 H0 G H G1 H1 G2 H2 W : Hp} {ls : List Addr} {cs cs0 cs2 : Cs} {l p C : Addr} {te ti tv : TE} {ta : TA} {α β γ κ ι ρ δ : Type} {R : Rep γ} {S : Rep β} {T : Rep γ} {B : Rep κ} {A : AR ι} {D : Ends} {tz tu : TS} {ns : List Str} {X : XK} {Q : VK}
variable {pa : α → δ} {ad : ι → δ} {ci : α → ρ → Cs} {a : α} {r r' : ρ} {i : ι}
end
end Sim

set_option maxHeartbeats 2000000
/-! groups of cells at the law's level -/
namespace Sim
open PySem PySem.Spec PyProof.Rows L2 Evl SlX
section
variable {K : PySem.W.Frag} {σ : L2.St} {G0 H0 G H G1 H1 G2 H2 W : Hp} {ls : List Addr} {cs cs0 cs2 fr tl : Cs} {l p C : Addr} {te ti tv : TE} {ta : TA} {α β γ κ ι ρ δ : Type} {R : Rep γ} {S : Rep β} {T : Rep γ} {B : Rep κ} {A : AR ι} {D : Ends} {tz tu : TS} {ns : List Str} {X : XK} {Q : VK} {c : Addr × CP}
end
end Sim
namespace Sim
open PySem PySem.Spec PyProof.Rows L2 Evl SlX
theorem Wo.left {G0 H0 G H : Hp} {ls : List Addr} {a b : Cs} (w : Wo G0 H0 ls G H (a ++ b)) : Wo G0 H0 ls G H a := ⟨⟨w.ex, fun c h => w.w.at_ c (List.mem_append_left _ h), by
  have := w.w.nd; rw [List.map_append] at this; exact (List.nodup_append.mp this).1⟩, w.f, fun c h => w.lo c (List.mem_append_left _ h)⟩
end Sim

set_option maxHeartbeats 2000000
/-! a comprehension over a dict's keys; append to a list that nobody keeps -/
namespace Sim
open PySem PySem.Spec PyProof.Rows L2 Evl SlX
section
variable {K : PySem.W.Frag} {σ : L2.St} {G0 H0 G H G1 H1 G2 H2 W : Hp} {ls : List Addr} {cs fr tl : Cs} {l p C a : Addr} {od : Obj} {ws : List (Key × V)} {te ti tv : TE} {ta : TA} {α β γ κ ι ρ δ : Type} [DecidableEq κ] {kf : κ → Key} {R : Rep γ} {S : Rep β} {T : Rep γ} {Sk : Rep κ} {D : Ends} {tz tu : TS} {ns : List Str} {X : XK} {Q : VK} {c : Addr × CP}
end
end Sim

/-! C() of a class without an own __init__; methods called with keywords or defaults, what is raised wished for -/
namespace L2
open PySem PySem.Spec PyProof.Rows
section
variable {X : Cx} {CX : CXT} {k n : Nat} {f C : Addr} {fd : FuncData} {ps ks : List Str} {sp : Sp} {E : St → XK} {x m : Str} {p pos apos : Pos} {e o : Expr} {es : List Expr} {kws : List Keyword} {ta : TE} {t tk : TA} {g : List Value → List Value → List Value} {gV : List V → List V → List V} {ds : List Value} {dvs : List V}
/-! ### o.m(k = v, ..) -/
/-! ### o.m() with defaults -/
end
end L2
namespace Sim
open PySem PySem.Spec PyProof.Rows L2 Evl
section
variable {K : PySem.W.Frag} {σ : L2.St} {G0 H0 G H W : Hp} {ls : List Addr} {cs : Cs} {C p : Addr} {te : TE} {ta tk : TA} {Q : VK} {j n nk : Nat} {ns : List Str} {ps : List Pd} {me : Str}
end
end Sim

/-! rules: what is called with an object of several parts and tells a name -/
namespace Sim
open PySem PySem.Spec PyProof.Rows L2 Evl LamX LamF NdefX
section
variable (P : Program) (w : World) (K : PySem.W.Frag) (mg : Str → Option Value) (base : Heap) {α ρ τ : Type} (pa : α → Addr) (ci : α → ρ → Cs)
/-- what is called; its own cells ct, what it tells an -/
structure RuOk (k : Nat) (G : Hp) (f : Addr) (ct : τ → Cs) (an : τ → ρ → Option (Str × τ)) : Prop where
  cb : ∀ t G' H, Ex G G' → Wd G' H (ct t) → Cbk K H f
  fx : ∀ t t', (ct t').map (·.1) = (ct t).map (·.1)
  ok : CalOk P w K mg base (L2.CX P w) k f (fun vs H Q E => ∃ (a : α) (G2 : Hp) (t : τ) (r : ρ) (nm : Str) (t' : τ), vs = [.ref (pa a)] ∧ Ex G G2 ∧ Wd G2 H (ct t ++ ci a r) ∧ an t r = some (nm, t') ∧ ∀ H3 G3, Fr G2 H G3 H3 ((ct t).map (·.1)) → Wd G3 H3 (ct t' ++ ci a r) → Q (.str nm) H3)
/-- a rule handed over: None (then the rule an0 is made), or what is called -/
def RuAt (k : Nat) (an0 : ρ → Option Str) (G : Hp) (v : V) (ct : τ → Cs) (an : τ → ρ → Option (Str × τ)) : Prop :=
  (v = .non ∧ (∀ t, ct t = []) ∧ ∀ t r, an t r = (an0 r).map fun nm => (nm, t)) ∨ ∃ f, v = .ref f ∧ RuOk P w K mg base pa ci k G f ct an
end
section
variable {P : Program} {w : World} {K : PySem.W.Frag} {mg : Str → Option Value} {base : Heap} {α ρ τ : Type} {pa : α → Addr} {ci : α → ρ → Cs} {k kk : Nat} {G0 H0 G H G2 H2 : Hp} {ls : List Addr} {cs : Cs} {f : Addr} {ct : τ → Cs} {an : τ → ρ → Option (Str × τ)} {σ : L2.St} {an0 : ρ → Option Str} {v : V}
theorem RuOk.mono (e : Ex G G2) (h : RuOk P w K mg base pa ci k G f ct an) : RuOk P w K mg base pa ci k G2 f ct an :=
  ⟨fun t G' H e' => h.cb t G' H (e.trans e'), h.fx, h.ok.imp fun vs H Q E ⟨a, G3, t, r, nm, t', a1, a2, a3⟩ => ⟨a, G3, t, r, nm, t', a1, e.trans a2, a3⟩⟩
theorem RuAt.mono (e : Ex G G2) (h : RuAt P w K mg base pa ci k an0 G v ct an) : RuAt P w K mg base pa ci k an0 G2 v ct an := h.imp id fun ⟨f, h1, h2⟩ => ⟨f, h1, h2.mono e⟩
end
end Sim

set_option maxHeartbeats 2000000
/-! an object with a list of its own, lent and walked by its own __iter__; made where it is told; a field that gets an object just made -/
namespace Sim
open PySem PySem.Spec PyProof.Rows L2 Evl SlX
section
variable {K : PySem.W.Frag} {σ : L2.St} {G0 H0 G H G1 H1 G2 H2 W : Hp} {ls : List Addr} {cs cs0 : Cs} {l p C C2 : Addr} {te : TE} {ta : TA} {α β γ κ ι ρ : Type} {R : Rep γ} {S : Rep β} {B : Rep κ} {A : AR ι} {D : Ends} {tz : TS} {ns : List Str} {X : XK} {Q : VK}
end
end Sim

/-! a step by a rule of the caller's -/
namespace Sim
open PySem PySem.Spec PyProof.Rows L2 Evl LamX LamF NdefX
section
variable {P : Program} {w : World} {K : PySem.W.Frag} {mg : Str → Option Value} {base : Heap} {α ρ τ : Type} {pa : α → Addr} {ci : α → ρ → Cs} {k kk : Nat} {G0 H0 G H G2 H2 : Hp} {ls : List Addr} {cs : Cs} {f : Addr} {ct : τ → Cs} {an : τ → ρ → Option (Str × τ)} {σ : L2.St} {an0 : ρ → Option Str} {v : V}
end
section
variable {D : List Addr} {G W : Hp} {σ : L2.St} {te : TE} {γ κ : Type} {R : Rep γ}
end
section
variable {α : Type} {σ : L2.St} {G0 H0 G H : Hp} {ls : List Addr} {cs : Cs} {C : Addr} {ns : List Str} {fl : α → List Pd} {x : α} {te : TE} {ta : TA} {X : XK} {Q : VK} {me : Str}
end
end Sim

/-! a dict that changes, read as data by a call whose answer is new lists of plain pairs -/
namespace Sim
open PySem PySem.Spec PyProof.Rows L2 Evl LamX LamF NdefX
section
variable {D : List Addr} {W Z G G0 H0 H : Hp} {ls : List Addr} {cs : Cs} {σ : L2.St} {te : TE} {α β κ : Type} {R : Rep α} {S : Rep β} {l : Addr} {i : Nat}
variable [DecidableEq κ] {kf : κ → Key} {d : List (κ × α)}
end
section
variable {σ : L2.St} {G W : Hp} {te : TE} {α β : Type} {R : Rep α} {S : Rep β}
end
end Sim

set_option maxHeartbeats 2000000
/-! texts laid in fields; list.count; a paper told by a run, as data -/
namespace PySem.W
open PySem PySem.Calls PyProof.Rows
open Builtin Builtin.Str Builtin.Int Builtin.Float
end PySem.W
namespace L2
open PySem PySem.Spec PyProof.Rows PySem.W
section
variable {X : Cx} {e spec : Expr} {te : TE} {sp : Str} {n : Nat} {pos : Pos}
end
end L2
namespace Sim
open PySem PySem.Spec PyProof.Rows L2 Evl
/-! ### texts -/
section
variable {K : PySem.W.Frag} {σ : L2.St} {G0 H0 G H G2 H2 W : Hp} {ls : List Addr} {cs : Cs} {l : Addr} {ta : TA} {te ti tu : TE} {tl th : TO} {α β γ κ ι ρ : Type} {R : Rep α} {S : Rep β} {T : Rep γ} {B : Rep κ} {A : AR ι} {D : Ends} {tz : TS} {Q : VK} {X : XK}
/-! ### an item set, its value told with effects -/
/-! ### a paper told by a run, as data -/
/-! ### a def that reads a run and tells a new list -/
end
end Sim

set_option maxHeartbeats 2000000
namespace Sim
open PySem PySem.Spec PyProof.Rows L2 Evl
/-! ### a dict lent to a def that only reads it; a run whose cells move -/
section
variable {K : PySem.W.Frag} {σ : L2.St} {G0 H0 G H G2 H2 W : Hp} {ls : List Addr} {cs : Cs} {l : Addr} {ta : TA} {te ti tu : TE} {α β γ κ ι ρ δ : Type} {R : Rep α} {S : Rep β} {T : Rep γ} {B : Rep κ} {A : AR ι} {Q : VK} {X : XK}
end
end Sim

/-! a def that takes a new list over; records and texts in an exception's fields; mixed lists -/
namespace Sim
open PySem PySem.Spec PyProof.Rows L2 Evl
section
variable {K : PySem.W.Frag} {σ : L2.St} {G0 H0 G H G2 H2 W : Hp} {ls : List Addr} {cs : Cs} {α β γ δ ι : Type} {R : Rep α} {A : AR ι} {te : TE} {ta : TA} {D : Ends} {tz : TS}
end
end Sim

/-! a list of lists that are changed in place -/
namespace Sim
open PySem PySem.Spec PyProof.Rows L2 Evl
section
variable {K : PySem.W.Frag} {σ : L2.St} {G0 H0 G H G2 H2 W : Hp} {ls : List Addr} {cs : Cs} {p : Addr} {α β γ δ ι : Type} {R : Rep α} {te ti tj : TE} {D : Ends} {tz : TS}
end
end Sim

/-! records and mixed data in exceptions and lists; raising calls that read a list, in tests and in fields; a paper's raising put -/
namespace Sim
open PySem PySem.Spec PyProof.Rows L2 Evl
section
variable {K : PySem.W.Frag} {σ : L2.St} {G0 H0 G H G2 H2 W : Hp} {ls : List Addr} {cs : Cs} {l p C : Addr} {α β γ δ ι κ ρ : Type} {R : Rep α} {S : Rep β} {T : Rep γ} {B : Rep κ} {A : AR ι} {te ti tj : TE} {ta : TA} {D : Ends} {tu tv tz : TS} {ns : List Str}
end
end Sim

/-! raise C() without arguments; != of lists of mixed data (objects by their addresses); a list's objects by their addresses -/
namespace L2
open PySem PySem.Spec PyProof.Rows SkE
/-- an own exception class without an own __init__, over ValueError -/
def ownXB (C : Str) (K : PySem.W.Frag) : Bool := PySem.W.excIn K (He.ga K C) [.type "ValueError", .type "Exception", .type "BaseException", .type "object"] "ValueError.__new__" && (decide (PySem.W.subIn K (.ref (He.ga K C)) (.type "BaseException") = some true) &&
  (decide (PySem.W.typeIn K (.ref (He.ga K C)) = some (.type "type")) && PySem.W.keepIn K (.ref (He.ga K C))))
/-- two items, compared: the same object, or plain data -/
def OneEq (K : PySem.W.Frag) (H : Hp) (v w : V) (b : Bool) : Prop := (∃ a, v = .ref a ∧ w = .ref a ∧ b = true) ∨ ∃ d e, Dp K H v d ∧ Dp K H w e ∧ (d.plain = true ∧ d.depth ≤ 60) ∧ e.plain = true ∧ b = PyData.eqv d e
inductive ItEq (K : PySem.W.Frag) (H : Hp) : List V → List V → List Bool → Prop where
  | nil : ItEq K H [] [] []
  | cons {v w : V} {b : Bool} {vs ws : List V} {bs : List Bool} : OneEq K H v w b → ItEq K H vs ws bs → ItEq K H (v :: vs) (w :: ws) (b :: bs)
theorem ItEq.len {K : PySem.W.Frag} {H : Hp} {vs ws : List V} {bs : List Bool} (h : ItEq K H vs ws bs) : vs.length = ws.length ∧ bs.length = vs.length := by
  induction h with
  | nil => exact ⟨rfl, rfl⟩
  | cons _ _ ih => exact ⟨congrArg (· + 1) ih.1, congrArg (· + 1) ih.2⟩
end L2
namespace Sim
open PySem PySem.Spec PyProof.Rows L2 Evl
section
variable {K : PySem.W.Frag} {σ : L2.St} {G0 H0 G H G2 H2 W : Hp} {ls : List Addr} {cs : Cs} {C : Addr} {α β : Type} {R : Rep α} {D : Ends} {tz : TS} {W9 : WX}
end
end Sim

set_option maxHeartbeats 40000000
set_option synthInstance.maxSize 4000
set_option synthInstance.maxHeartbeats 1000000
namespace My
open PySem PySem.Spec PyProof.Rows L2 Sim
def top (i : Nat) : Stmt := PySem.Challenge.pw_askedpoints_k18_error_classes.main.body.getD i (.Pass ⟨0, 0, 0, 0⟩)
abbrev s_Record___init__ : Stmt := inClass (top 19) 1
abbrev s__law_pot : Stmt := top 21
abbrev s__law_draw : Stmt := top 22
abbrev s__law_names : Stmt := top 23
abbrev s__law_raised : Stmt := top 24
abbrev s__law_error_fields : Stmt := top 25
abbrev s__law_error_kinds : Stmt := top 26
abbrev s_law : Stmt := top 27
def d_Record___init__ : He.DefD := ⟨("Record", some "__init__"), "__init__", "Record.__init__", defArgs s_Record___init__, defBody s_Record___init__, defScope s_Record___init__, [], []⟩
def d__law_pot : He.DefD := ⟨("_law_pot", none), "_law_pot", "_law_pot", defArgs s__law_pot, defBody s__law_pot, defScope s__law_pot, [], []⟩
def d__law_draw : He.DefD := ⟨("_law_draw", none), "_law_draw", "_law_draw", defArgs s__law_draw, defBody s__law_draw, defScope s__law_draw, [], []⟩
def d__law_names : He.DefD := ⟨("_law_names", none), "_law_names", "_law_names", defArgs s__law_names, defBody s__law_names, defScope s__law_names, [], []⟩
def d__law_raised : He.DefD := ⟨("_law_raised", none), "_law_raised", "_law_raised", defArgs s__law_raised, defBody s__law_raised, defScope s__law_raised, [], []⟩
def d__law_error_fields : He.DefD := ⟨("_law_error_fields", none), "_law_error_fields", "_law_error_fields", defArgs s__law_error_fields, defBody s__law_error_fields, defScope s__law_error_fields, [], []⟩
def d__law_error_kinds : He.DefD := ⟨("_law_error_kinds", none), "_law_error_kinds", "_law_error_kinds", defArgs s__law_error_kinds, defBody s__law_error_kinds, defScope s__law_error_kinds, [], []⟩
def d_law : He.DefD := ⟨("law", none), "law", "law", defArgs s_law, defBody s_law, defScope s_law, [], []⟩
def fn : List He.DefD := [d_Record___init__, d__law_pot, d__law_draw, d__law_names, d__law_raised, d__law_error_fields, d__law_error_kinds, d_law]
def fa : List He.Fa := [.glo "_wall", .glo "AskedError", .glo "BadSize", .glo "NotElement", .glo "Ring", .glo "NoJoin", .glo "NoMeet", .glo "AskedTwice", .glo "Unanswered", .glo "TooMany", .glo "NoSide", .glo "Clash", .glo "OtherOrder", .glo "NotSettled", .glo "NotDue", .glo "OverLimit", .glo "BadLimit", .glo "Record", .glo "_law_pot", .glo "_law_draw", .glo "_law_names", .glo "_law_raised", .glo "_law_error_fields", .glo "_law_error_kinds", .glo "law", .free "super", .free "len", .free "min", .free "range", .free "abs", .free "int", .free "tuple", .free "isinstance", .free "ValueError", .mkr "Record"]
def ex : List (PySem.W.Frag → Bool) := [sclB "Record", slotB "Record" "name" 1, slotB "Record" "asks" 0, slotB "Record" "result" 2, ownXB "OtherOrder", xsB ["BadSize"], xnB ["BadSize"] ["size"], xaB ["BadSize"] "BadSize" true, xaB ["NotElement"] "BadSize" false, xsB ["NotElement"], xnB ["NotElement"] ["value"], xaB ["NotElement"] "NotElement" true, xaB ["Ring"] "BadSize" false, xaB ["Ring"] "NotElement" false, xsB ["Ring"], xnB ["Ring"] ["first"], xnB ["Ring"] ["second"], xaB ["Ring"] "Ring" true, xaB ["NoJoin"] "BadSize" false, xaB ["NoJoin"] "NotElement" false, xaB ["NoJoin"] "Ring" false, xsB ["NoJoin"], xnB ["NoJoin"] ["first"], xnB ["NoJoin"] ["second"], xaB ["NoJoin"] "NoJoin" true, xaB ["NoMeet"] "BadSize" false, xaB ["NoMeet"] "NotElement" false, xaB ["NoMeet"] "Ring" false, xaB ["NoMeet"] "NoJoin" false, xsB ["NoMeet"], xnB ["NoMeet"] ["first"], xnB ["NoMeet"] ["second"], xaB ["NoMeet"] "NoMeet" true, xaB ["AskedTwice"] "BadSize" false, xaB ["AskedTwice"] "NotElement" false, xaB ["AskedTwice"] "Ring" false, xaB ["AskedTwice"] "NoJoin" false, xaB ["AskedTwice"] "NoMeet" false, xsB ["AskedTwice"], xnB ["AskedTwice"] ["name"], xaB ["AskedTwice"] "AskedTwice" true, xaB ["Unanswered"] "BadSize" false, xaB ["Unanswered"] "NotElement" false, xaB ["Unanswered"] "Ring" false, xaB ["Unanswered"] "NoJoin" false, xaB ["Unanswered"] "NoMeet" false, xaB ["Unanswered"] "AskedTwice" false, xsB ["Unanswered"], xnB ["Unanswered"] ["name"], xaB ["Unanswered"] "Unanswered" true, xaB ["TooMany"] "BadSize" false, xaB ["TooMany"] "NotElement" false, xaB ["TooMany"] "Ring" false, xaB ["TooMany"] "NoJoin" false, xaB ["TooMany"] "NoMeet" false, xaB ["TooMany"] "AskedTwice" false, xaB ["TooMany"] "Unanswered" false, xsB ["TooMany"], xnB ["TooMany"] ["most"], xaB ["TooMany"] "TooMany" true, xaB ["NoSide"] "BadSize" false, xaB ["NoSide"] "NotElement" false, xaB ["NoSide"] "Ring" false, xaB ["NoSide"] "NoJoin" false, xaB ["NoSide"] "NoMeet" false, xaB ["NoSide"] "AskedTwice" false, xaB ["NoSide"] "Unanswered" false, xaB ["NoSide"] "TooMany" false, xsB ["NoSide"], xnB ["NoSide"] ["name"], xaB ["NoSide"] "NoSide" true, xaB ["Clash"] "BadSize" false, xaB ["Clash"] "NotElement" false, xaB ["Clash"] "Ring" false, xaB ["Clash"] "NoJoin" false, xaB ["Clash"] "NoMeet" false, xaB ["Clash"] "AskedTwice" false, xaB ["Clash"] "Unanswered" false, xaB ["Clash"] "TooMany" false, xaB ["Clash"] "NoSide" false, xsB ["Clash"], xnB ["Clash"] ["first"], xnB ["Clash"] ["second"], xnB ["Clash"] ["kind"], xaB ["Clash"] "Clash" true, xaB ["OtherOrder"] "BadSize" false, xaB ["OtherOrder"] "NotElement" false, xaB ["OtherOrder"] "Ring" false, xaB ["OtherOrder"] "NoJoin" false, xaB ["OtherOrder"] "NoMeet" false, xaB ["OtherOrder"] "AskedTwice" false, xaB ["OtherOrder"] "Unanswered" false, xaB ["OtherOrder"] "TooMany" false, xaB ["OtherOrder"] "NoSide" false, xaB ["OtherOrder"] "Clash" false, xaB ["OtherOrder"] "OtherOrder" true, xaB ["NotSettled"] "BadSize" false, xaB ["NotSettled"] "NotElement" false, xaB ["NotSettled"] "Ring" false, xaB ["NotSettled"] "NoJoin" false, xaB ["NotSettled"] "NoMeet" false, xaB ["NotSettled"] "AskedTwice" false, xaB ["NotSettled"] "Unanswered" false, xaB ["NotSettled"] "TooMany" false, xaB ["NotSettled"] "NoSide" false, xaB ["NotSettled"] "Clash" false, xaB ["NotSettled"] "OtherOrder" false, xsB ["NotSettled"], xnB ["NotSettled"] ["wanted"], xaB ["NotSettled"] "NotSettled" true, xaB ["NotDue"] "BadSize" false, xaB ["NotDue"] "NotElement" false, xaB ["NotDue"] "Ring" false, xaB ["NotDue"] "NoJoin" false, xaB ["NotDue"] "NoMeet" false, xaB ["NotDue"] "AskedTwice" false, xaB ["NotDue"] "Unanswered" false, xaB ["NotDue"] "TooMany" false, xaB ["NotDue"] "NoSide" false, xaB ["NotDue"] "Clash" false, xaB ["NotDue"] "OtherOrder" false, xaB ["NotDue"] "NotSettled" false, xsB ["NotDue"], xnB ["NotDue"] ["name"], xaB ["NotDue"] "NotDue" true, xaB ["OverLimit"] "BadSize" false, xaB ["OverLimit"] "NotElement" false, xaB ["OverLimit"] "Ring" false, xaB ["OverLimit"] "NoJoin" false, xaB ["OverLimit"] "NoMeet" false, xaB ["OverLimit"] "AskedTwice" false, xaB ["OverLimit"] "Unanswered" false, xaB ["OverLimit"] "TooMany" false, xaB ["OverLimit"] "NoSide" false, xaB ["OverLimit"] "Clash" false, xaB ["OverLimit"] "OtherOrder" false, xaB ["OverLimit"] "NotSettled" false, xaB ["OverLimit"] "NotDue" false, xsB ["OverLimit"], xnB ["OverLimit"] ["most"], xaB ["OverLimit"] "OverLimit" true, xaB ["BadLimit"] "BadSize" false, xaB ["BadLimit"] "NotElement" false, xaB ["BadLimit"] "Ring" false, xaB ["BadLimit"] "NoJoin" false, xaB ["BadLimit"] "NoMeet" false, xaB ["BadLimit"] "AskedTwice" false, xaB ["BadLimit"] "Unanswered" false, xaB ["BadLimit"] "TooMany" false, xaB ["BadLimit"] "NoSide" false, xaB ["BadLimit"] "Clash" false, xaB ["BadLimit"] "OtherOrder" false, xaB ["BadLimit"] "NotSettled" false, xaB ["BadLimit"] "NotDue" false, xaB ["BadLimit"] "OverLimit" false, xsB ["BadLimit"], xnB ["BadLimit"] ["most"], xaB ["BadLimit"] "BadLimit" true, xsB ["BadSize", "NotElement", "Ring", "NoJoin", "NoMeet", "AskedTwice", "Unanswered", "TooMany", "NoSide", "Clash", "OtherOrder", "NotSettled", "NotDue", "OverLimit", "BadLimit"], xkB ["BadSize", "NotElement", "Ring", "NoJoin", "NoMeet", "AskedTwice", "Unanswered", "TooMany", "NoSide", "Clash", "OtherOrder", "NotSettled", "NotDue", "OverLimit", "BadLimit"] "BadSize" ["BadSize"], xkB ["BadSize", "NotElement", "Ring", "NoJoin", "NoMeet", "AskedTwice", "Unanswered", "TooMany", "NoSide", "Clash", "OtherOrder", "NotSettled", "NotDue", "OverLimit", "BadLimit"] "NotElement" ["NotElement"], xkB ["BadSize", "NotElement", "Ring", "NoJoin", "NoMeet", "AskedTwice", "Unanswered", "TooMany", "NoSide", "Clash", "OtherOrder", "NotSettled", "NotDue", "OverLimit", "BadLimit"] "Ring" ["Ring"], xkB ["BadSize", "NotElement", "Ring", "NoJoin", "NoMeet", "AskedTwice", "Unanswered", "TooMany", "NoSide", "Clash", "OtherOrder", "NotSettled", "NotDue", "OverLimit", "BadLimit"] "NoJoin" ["NoJoin"], xkB ["BadSize", "NotElement", "Ring", "NoJoin", "NoMeet", "AskedTwice", "Unanswered", "TooMany", "NoSide", "Clash", "OtherOrder", "NotSettled", "NotDue", "OverLimit", "BadLimit"] "NoMeet" ["NoMeet"], xkB ["BadSize", "NotElement", "Ring", "NoJoin", "NoMeet", "AskedTwice", "Unanswered", "TooMany", "NoSide", "Clash", "OtherOrder", "NotSettled", "NotDue", "OverLimit", "BadLimit"] "AskedTwice" ["AskedTwice"], xkB ["BadSize", "NotElement", "Ring", "NoJoin", "NoMeet", "AskedTwice", "Unanswered", "TooMany", "NoSide", "Clash", "OtherOrder", "NotSettled", "NotDue", "OverLimit", "BadLimit"] "Unanswered" ["Unanswered"], xkB ["BadSize", "NotElement", "Ring", "NoJoin", "NoMeet", "AskedTwice", "Unanswered", "TooMany", "NoSide", "Clash", "OtherOrder", "NotSettled", "NotDue", "OverLimit", "BadLimit"] "TooMany" ["TooMany"], xkB ["BadSize", "NotElement", "Ring", "NoJoin", "NoMeet", "AskedTwice", "Unanswered", "TooMany", "NoSide", "Clash", "OtherOrder", "NotSettled", "NotDue", "OverLimit", "BadLimit"] "NoSide" ["NoSide"], xkB ["BadSize", "NotElement", "Ring", "NoJoin", "NoMeet", "AskedTwice", "Unanswered", "TooMany", "NoSide", "Clash", "OtherOrder", "NotSettled", "NotDue", "OverLimit", "BadLimit"] "Clash" ["Clash"], xkB ["BadSize", "NotElement", "Ring", "NoJoin", "NoMeet", "AskedTwice", "Unanswered", "TooMany", "NoSide", "Clash", "OtherOrder", "NotSettled", "NotDue", "OverLimit", "BadLimit"] "OtherOrder" ["OtherOrder"], xkB ["BadSize", "NotElement", "Ring", "NoJoin", "NoMeet", "AskedTwice", "Unanswered", "TooMany", "NoSide", "Clash", "OtherOrder", "NotSettled", "NotDue", "OverLimit", "BadLimit"] "NotSettled" ["NotSettled"], xkB ["BadSize", "NotElement", "Ring", "NoJoin", "NoMeet", "AskedTwice", "Unanswered", "TooMany", "NoSide", "Clash", "OtherOrder", "NotSettled", "NotDue", "OverLimit", "BadLimit"] "NotDue" ["NotDue"], xkB ["BadSize", "NotElement", "Ring", "NoJoin", "NoMeet", "AskedTwice", "Unanswered", "TooMany", "NoSide", "Clash", "OtherOrder", "NotSettled", "NotDue", "OverLimit", "BadLimit"] "OverLimit" ["OverLimit"], xkB ["BadSize", "NotElement", "Ring", "NoJoin", "NoMeet", "AskedTwice", "Unanswered", "TooMany", "NoSide", "Clash", "OtherOrder", "NotSettled", "NotDue", "OverLimit", "BadLimit"] "BadLimit" ["BadLimit"], xkTB ["BadSize", "NotElement", "Ring", "NoJoin", "NoMeet", "AskedTwice", "Unanswered", "TooMany", "NoSide", "Clash", "OtherOrder", "NotSettled", "NotDue", "OverLimit", "BadLimit"] "ValueError" true, xaB ["BadSize", "NotElement", "Ring", "NoJoin", "NoMeet", "AskedTwice", "Unanswered", "TooMany", "NoSide", "Clash", "OtherOrder", "NotSettled", "NotDue", "OverLimit", "BadLimit"] "AskedError" true, noB "BadSize" "size", noB "NotElement" "value", noB "Ring" "first", noB "Ring" "second", noB "NoJoin" "first", noB "NoJoin" "second", noB "NoMeet" "first", noB "NoMeet" "second", noB "AskedTwice" "name", noB "Unanswered" "name", noB "TooMany" "most", noB "NoSide" "name", noB "Clash" "first", noB "Clash" "second", noB "Clash" "kind", noB "NotSettled" "wanted", noB "NotDue" "name", noB "OverLimit" "most", noB "BadLimit" "most"]
def P : Program := (PySem.Challenge.rw_askedpoints_k18_error_classes).prog
abbrev s_BadSize___init__ : Stmt := inClass (top 3) 0
abbrev s_NotElement___init__ : Stmt := inClass (top 4) 0
abbrev s_Ring___init__ : Stmt := inClass (top 5) 0
abbrev s_NoJoin___init__ : Stmt := inClass (top 6) 0
abbrev s_NoMeet___init__ : Stmt := inClass (top 7) 0
abbrev s_AskedTwice___init__ : Stmt := inClass (top 8) 0
abbrev s_Unanswered___init__ : Stmt := inClass (top 9) 0
abbrev s_TooMany___init__ : Stmt := inClass (top 10) 0
abbrev s_NoSide___init__ : Stmt := inClass (top 11) 0
abbrev s_Clash___init__ : Stmt := inClass (top 12) 0
abbrev s_NotSettled___init__ : Stmt := inClass (top 14) 0
abbrev s_NotDue___init__ : Stmt := inClass (top 15) 0
abbrev s_OverLimit___init__ : Stmt := inClass (top 16) 0
abbrev s_BadLimit___init__ : Stmt := inClass (top 17) 0
def x_BadSize : XcD := ⟨"BadSize", "BadSize.__init__", defArgs s_BadSize___init__, defBody s_BadSize___init__, defScope s_BadSize___init__⟩
def x_NotElement : XcD := ⟨"NotElement", "NotElement.__init__", defArgs s_NotElement___init__, defBody s_NotElement___init__, defScope s_NotElement___init__⟩
def x_Ring : XcD := ⟨"Ring", "Ring.__init__", defArgs s_Ring___init__, defBody s_Ring___init__, defScope s_Ring___init__⟩
def x_NoJoin : XcD := ⟨"NoJoin", "NoJoin.__init__", defArgs s_NoJoin___init__, defBody s_NoJoin___init__, defScope s_NoJoin___init__⟩
def x_NoMeet : XcD := ⟨"NoMeet", "NoMeet.__init__", defArgs s_NoMeet___init__, defBody s_NoMeet___init__, defScope s_NoMeet___init__⟩
def x_AskedTwice : XcD := ⟨"AskedTwice", "AskedTwice.__init__", defArgs s_AskedTwice___init__, defBody s_AskedTwice___init__, defScope s_AskedTwice___init__⟩
def x_Unanswered : XcD := ⟨"Unanswered", "Unanswered.__init__", defArgs s_Unanswered___init__, defBody s_Unanswered___init__, defScope s_Unanswered___init__⟩
def x_TooMany : XcD := ⟨"TooMany", "TooMany.__init__", defArgs s_TooMany___init__, defBody s_TooMany___init__, defScope s_TooMany___init__⟩
def x_NoSide : XcD := ⟨"NoSide", "NoSide.__init__", defArgs s_NoSide___init__, defBody s_NoSide___init__, defScope s_NoSide___init__⟩
def x_Clash : XcD := ⟨"Clash", "Clash.__init__", defArgs s_Clash___init__, defBody s_Clash___init__, defScope s_Clash___init__⟩
def x_NotSettled : XcD := ⟨"NotSettled", "NotSettled.__init__", defArgs s_NotSettled___init__, defBody s_NotSettled___init__, defScope s_NotSettled___init__⟩
def x_NotDue : XcD := ⟨"NotDue", "NotDue.__init__", defArgs s_NotDue___init__, defBody s_NotDue___init__, defScope s_NotDue___init__⟩
def x_OverLimit : XcD := ⟨"OverLimit", "OverLimit.__init__", defArgs s_OverLimit___init__, defBody s_OverLimit___init__, defScope s_OverLimit___init__⟩
def x_BadLimit : XcD := ⟨"BadLimit", "BadLimit.__init__", defArgs s_BadLimit___init__, defBody s_BadLimit___init__, defScope s_BadLimit___init__⟩
def xs : List XcD := [x_BadSize, x_NotElement, x_Ring, x_NoJoin, x_NoMeet, x_AskedTwice, x_Unanswered, x_TooMany, x_NoSide, x_Clash, x_NotSettled, x_NotDue, x_OverLimit, x_BadLimit]
def gs : List GeD := []
abbrev Tx (K : PySem.W.Frag) (mg : Str → Option Value) : Prop := TxX fa fn ex xs gs P.main.file K mg
section
variable {w : World} {K : PySem.W.Frag} {mg : Str → Option Value} {base : Heap}
end
end My
namespace My
open PySem L2 Sim
section
variable {α β γ σ ρ : Type}
theorem bs {a : α} {f : α → Option β} : Option.bind (some a) f = f a := Eq.trans (Option.bind_some a f) (Eq.refl _)
end

/-! pop -/
section
open PyProof.Rows
end
end My

namespace My
open PySem L2 Sim PyProof.Rows
/-! ### the pot -/
end My

namespace My
end My

namespace My
open PySem L2 Sim PyProof.Rows
/-! ### names -/
/-! ### tables -/
section
variable {α : Type}
theorem put_new {d : List (Str × α)} {k : Str} {x : α} (h : k ∉ d.map (·.1)) : putM d k x = d ++ [(k, x)] := by
  unfold putM
  rw [if_neg]
  intro h2
  obtain ⟨q, hq, e⟩ := List.any_eq_true.mp h2
  exact h (List.mem_map.mpr ⟨q, hq, of_decide_eq_true e⟩)
theorem put_old {d : List (Str × α)} {k : Str} {x : α} (h : k ∈ d.map (·.1)) : putM d k x = d.map fun q => if q.1 = k then (q.1, x) else q := by
  unfold putM
  rw [if_pos]
  obtain ⟨q, hq, e⟩ := List.mem_map.mp h
  exact List.any_eq_true.mpr ⟨q, hq, decide_eq_true e⟩
theorem put_keys {d : List (Str × α)} {k : Str} {x : α} : (putM d k x).map (·.1) = if k ∈ d.map (·.1) then d.map (·.1) else d.map (·.1) ++ [k] := by
  by_cases h : k ∈ d.map (·.1)
  · rw [put_old h, if_pos h, List.map_map]
    refine List.map_congr_left fun q _ => ?_
    show (if q.1 = k then (q.1, x) else q).1 = q.1
    split <;> rfl
  · rw [put_new h, if_neg h, List.map_append]; rfl
theorem put_mem {d : List (Str × α)} {k : Str} {x : α} {q : Str × α} (h : q ∈ putM d k x) : q ∈ d ∨ q = (k, x) := by
  by_cases hk : k ∈ d.map (·.1)
  · rw [put_old hk] at h
    obtain ⟨r, hr, e⟩ := List.mem_map.mp h
    by_cases e2 : r.1 = k
    · rw [if_pos e2] at e; subst e; right; rw [e2]
    · rw [if_neg e2] at e; subst e; exact .inl hr
  · rw [put_new hk] at h
    rcases List.mem_append.mp h with h | h
    · exact .inl h
    · exact .inr (List.mem_singleton.mp h)
theorem put_len {d : List (Str × α)} {k : Str} {x : α} : (putM d k x).length ≤ d.length + 1 := by
  have := congrArg List.length (put_keys (d := d) (k := k) (x := x))
  rw [List.length_map] at this
  rw [this]
  split <;> simp
theorem look_mem {d : List (Str × α)} {k : Str} {x : α} (h : lookM d k = some x) : (k, x) ∈ d := by
  unfold lookM at h
  cases e : d.find? fun q => decide (q.1 = k) with
  | none => rw [e] at h; cases h
  | some q =>
    rw [e] at h
    have h1 : q.1 = k := of_decide_eq_true (p := q.1 = k) (List.find?_some (p := fun q : Str × α => decide (q.1 = k)) e)
    have h2 := List.mem_of_find?_eq_some e
    have h3 : q.2 = x := Option.some.inj h
    rw [← h1, ← h3]
    exact h2
/-- a table of elements, of at most l entries -/
structure Tb (n l : Nat) (d : List (Str × Int)) : Prop where
  nd : (d.map (·.1)).Nodup
  rg : ∀ q ∈ d, ∃ a : Nat, a < n ∧ q.2 = (a : Int)
  ln : d.length ≤ l
theorem Tb.nil {n l : Nat} : Tb n l [] := ⟨List.nodup_nil, fun q hq => (nomatch hq), Nat.zero_le _⟩
theorem Tb.imp {n l l' : Nat} {d : List (Str × Int)} (t : Tb n l d) (h : l ≤ l') : Tb n l' d := ⟨t.nd, t.rg, Nat.le_trans t.ln h⟩
theorem Tb.put {n l a : Nat} {k : Str} {d : List (Str × Int)} (t : Tb n l d) (ha : a < n) : Tb n (l + 1) (putM d k (a : Int)) where
  nd := by
    rw [put_keys]
    split
    · exact t.nd
    · rename_i h
      rw [List.nodup_append]
      exact ⟨t.nd, by simp, fun x hx y hy => by
        rw [List.mem_singleton] at hy
        subst hy
        exact fun e => h (e ▸ hx)⟩
  rg q hq := by
    rcases put_mem hq with h | rfl
    · exact t.rg q h
    · exact ⟨a, ha, rfl⟩
  ln := Nat.le_trans put_len (Nat.add_le_add_right t.ln 1)
theorem Tb.get {n l a : Nat} {d : List (Str × Int)} (t : Tb n l d) (ha : a < n) (k : Str) : ∃ b : Nat, b < n ∧ (lookM d k).getD (a : Int) = (b : Int) := by
  cases e : lookM d k with
  | none => exact ⟨a, ha, rfl⟩
  | some x =>
    obtain ⟨b, hb, e2⟩ := t.rg _ (look_mem e)
    exact ⟨b, hb, e2⟩
end
end My

/-! the law: error classes -/
namespace My
open PySem L2 Sim PyProof.Rows
section
variable {one two : Int} {n0 n1 : Str} {a0 a1 : Addr}
end
end My

set_option maxHeartbeats 0
namespace My
open PySem PySem.Spec PyProof.Rows L2 Sim
abbrev Rw1 : PySem.W.OpenRow := PySem.W.OpenLaw.row PySem.Challenge.rw_askedpoints_k18_error_classes
abbrev hk : PySem.W.Hook := hookX 5 fa fn ex xs gs P.main.file
def ob (s : PySem.W.SharedT) : AlX := obsXG 5 fa fn ex xs gs P.main.file (HandSHeadRun.getT s)
def loose0 : List PySem.Str := ["_wall", "AskedError", "BadSize", "NotElement", "Ring", "NoJoin", "NoMeet", "AskedTwice", "Unanswered", "TooMany", "NoSide", "Clash", "OtherOrder", "NotSettled", "NotDue"]
def loose1 : List PySem.Str := ["OverLimit", "BadLimit", "Record", "_law_pot", "_law_draw", "_law_names", "_law_raised", "_law_error_fields", "_law_error_kinds"]
def loose : List PySem.Str := loose0 ++ (loose1)
theorem run_join {α β γ δ : Type} {x : Option α} {f : α → β × γ} {g : α → δ} {b : β} {c : γ} {d : δ} (h1 : x.map f = some (b, c)) (h2 : x.map g = some d) : x.map (fun s => ((f s).1, (f s).2, g s)) = some (b, c, d) := by
  cases x with
  | none => cases h1
  | some s =>
    have h1 : f s = (b, c) := Option.some.inj h1
    have h2 : g s = d := Option.some.inj h2
    show some ((f s).1, (f s).2, g s) = _
    rw [h1, h2]
section
open PySem.W PySem.Calls HandSHeadRun
theorem run_mk {r : PySem.W.OpenRow} {q : Program} {H : PySem.W.Hook} {ob : PySem.W.SharedT → H.α} {M : Nat} {loose : List PySem.Str} {w : World}
    (h1 : ∀ os : OsState, (endF (stepQ (denQ tabQ) r.prog w) M r.prog w os).map (fun s => (looksF r.prog (boot_heap w.params) s.abs, seenQ q loose (importedModules r.prog.main.body) (fun s => xlAt q [] s && recOk r.toRowW.records s) s.abs)) = some (true, openGood q loose))
    (h2 : ∀ os : OsState, (endF (stepQ (denQ tabQ) r.prog w) M r.prog w os).map ob = some (H.val w)) : RunEq r q H ob M loose w := fun os => run_join (h1 os) (h2 os)
theorem run1 (w : World) : ∀ os : OsState, (endF (stepQ (denQ tabQ) Rw1.prog w) 9000 Rw1.prog w os).map (fun s => (looksF Rw1.prog (boot_heap w.params) s.abs, seenQ (PySem.W.view Rw1.prog [27]) loose (importedModules Rw1.prog.main.body) (fun s => xlAt (PySem.W.view Rw1.prog [27]) [] s && recOk Rw1.toRowW.records s) s.abs)) = some (true, openGood (PySem.W.view Rw1.prog [27]) loose) := by
  intro os
  kernel_rfl
theorem run2 (w : World) : ∀ os : OsState, (endF (stepQ (denQ tabQ) Rw1.prog w) 9000 Rw1.prog w os).map ob = some (hk.val w) := by
  intro os
  kernel_rfl
theorem run (w : World) : RunEq Rw1 (PySem.W.view Rw1.prog [27]) hk ob 9000 loose w := run_mk (run1 w) (run2 w)
end
end My
open PySem PySem.W PySem.Calls PyProof.Rows
end
/-! Sim: what a reading does, told by plain Lean data (mirrors). -/
namespace Sim
open PySem L2 Evl

/-! ### heaps: the data heap G below the heap H -/
theorem Up.lay {G H : Hp} {p : Addr} {o : HO} (e : Ex G H) (n : H p = none) : Up G H (upd G p o) (upd H p o) := by
  refine ⟨Ex.new (fresh_back e n), fun a u h => ?_, Ex.new n, fun a h1 h2 => ?_⟩
  · by_cases q : a = p
    · subst q; rw [upd_same] at h ⊢; exact h
    · rw [upd_ne q] at h ⊢; exact e a u h
  · by_cases q : a = p
    · subst q; exact absurd n h1
    · rw [upd_ne q]; exact h2

/-! ### data as it stands in a heap -/
def rU : Rep Unit := ⟨fun _ v _ => v = .non, fun _ h => h⟩
theorem pr_get {R : V → α → Prop} : ∀ {vs : List V} {xs : List α} {i : Nat} {x : α}, Paired R vs xs → xs[i]? = some x → ∃ v, vs[i]? = some v ∧ R v x
  | _, _, _, _, .nil, e => by simp at e
  | _, _, 0, _, .cons r _, e => by simp at e; subst e; exact ⟨_, rfl, r⟩
  | _, _, i + 1, x, .cons _ t, e => by
    obtain ⟨u, h1, h2⟩ := pr_get (i := i) (x := x) t (by simpa using e)
    exact ⟨u, by simpa using h1, h2⟩
theorem pr_get' {R : V → α → Prop} : ∀ {vs : List V} {xs : List α} {i : Nat} {v : V}, Paired R vs xs → vs[i]? = some v → ∃ x, xs[i]? = some x ∧ R v x
  | _, _, _, _, .nil, e => by simp at e
  | _, _, 0, _, .cons r _, e => by simp at e; subst e; exact ⟨_, rfl, r⟩
  | _, _, i + 1, x, .cons _ t, e => by
    obtain ⟨u, h1, h2⟩ := pr_get' (i := i) (v := x) t (by simpa using e)
    exact ⟨u, by simpa using h1, h2⟩
theorem pr_app {R : V → α → Prop} : ∀ {vs : List V} {xs : List α} {vs' : List V} {xs' : List α}, Paired R vs xs → Paired R vs' xs' → Paired R (vs ++ vs') (xs ++ xs')
  | _, _, _, _, .nil, h => h
  | _, _, _, _, .cons r t, h => .cons r (pr_app t h)

/-! ### mirrors that may lack an answer -/
theorem bindS {α β : Type} {m : Option α} {f : α → Option β} {r : β} (h : (m >>= f) = some r) : ∃ x, m = some x ∧ f x = some r := by
  cases m with
  | none => exact absurd h (by simp)
  | some x => exact ⟨x, rfl, h⟩

/-! ### expressions -/
def aN : AR Unit := ⟨fun _ vs _ => vs = [], fun _ h => h⟩
def aC {α ι : Type} (R : Rep α) (A : AR ι) : AR (α × ι) := ⟨fun H vs p => ∃ v ws, vs = v :: ws ∧ R.r H v p.1 ∧ A.r H ws p.2,
  fun e ⟨v, ws, h1, h2, h3⟩ => ⟨v, ws, h1, R.mono e h2, A.mono e h3⟩⟩
section
variable {K : PySem.W.Frag} {σ : L2.St} {G H G' W W' : Hp} {ta tb te : TE} {t u : TT} {α β γ ι : Type} {R : Rep α} {S : Rep β} {T : Rep γ} {A : AR ι}
theorem e_var {i : Nat} {v : V} {x : α} (hi : σ[i]? = some (some v)) (hv : R.r G v x) : E (tVar i) σ G W R (some x) := fun y hy H e _ Q q => by
  cases hy
  exact ⟨v, hi, q v H G (Up.refl e) hv⟩
theorem e_c {v : V} {x : α} (hv : R.r G v x) : E (tC v) σ G W R (some x) := fun y hy H e _ Q q => by
  cases hy
  exact q v H G (Up.refl e) hv
theorem e_int {i : Int} : E (tC (.int i)) σ G W rI (some i) := e_c rfl
theorem e_bl {i : Bool} : E (tC (.bl i)) σ G W rB (some i) := e_c rfl
theorem e_str {i : Str} : E (tC (.str i)) σ G W rS (some i) := e_c rfl
/-- an operator on values, as a mirror -/
def RR (r : R2) (R : Rep α) (S : Rep β) (T : Rep γ) (f : α → β → Option γ) : Prop :=
  ∀ v w x y z H G, R.r G v x → S.r G w y → f x y = some z → Ex G H → ∀ Q : VK, (∀ u H2 G2, Up G H G2 H2 → T.r G2 u z → Q u H2) → r v w H Q
theorem e_op {r : R2} {f : α → β → Option γ} {ma : Option α} {mb : Option β} (hr : RR r R S T f) (ha : E ta σ G W R ma) (hb : E tb σ G W S mb) :
    E (tOp r ta tb) σ G W T (ma >>= fun x => mb >>= fun y => f x y) := fun z hz H e e' Q q => by
  obtain ⟨x, hx, hz⟩ := bindS hz
  obtain ⟨y, hy, hz⟩ := bindS hz
  refine ha x hx H e e' _ fun v H1 G1 u1 r1 => ?_
  refine (hb.mono u1.gg (e'.trans u1.hh)) y hy H1 u1.gh (Ex.refl _) _ fun w H2 G2 u2 r2 => ?_
  exact hr v w x y z H2 G2 (R.mono u2.gg r1) r2 hz u2.gh Q fun u H3 G3 u3 r3 => q u H3 G3 ((u1.trans u2).trans u3) r3
theorem rr_I0 {g : Int → Int → V} {f : Int → Int → γ} (h : ∀ i j H, T.r H (g i j) (f i j)) : RR (rI0 g) rI rI T (fun i j => some (f i j)) := fun v w x y z H G hv hw hz e Q q => by
  cases hv; cases hw; cases hz
  exact ⟨x, y, rfl, rfl, q _ H G (Up.refl e) (h x y G)⟩
theorem rr_I {C : Int → Int → Prop} {g : Int → Int → V} {f : Int → Int → Option γ} (h : ∀ i j z, f i j = some z → C i j ∧ ∀ H, T.r H (g i j) z) : RR (L2.rI C g) rI rI T f := fun v w x y z H G hv hw hz e Q q => by
  cases hv; cases hw
  obtain ⟨h1, h2⟩ := h x y z hz
  exact ⟨x, y, rfl, rfl, h1, q _ H G (Up.refl e) (h2 G)⟩
end
end Sim

namespace Sim
open PySem L2 Evl

/-! ### cells: objects that change -/
section
variable {G H G2 H2 : Hp} {cs : Cs} {l : Addr} {cp cp' : CP}
theorem Wd.tail (w : Wd G H ((l, cp) :: cs)) : Wd G H cs := ⟨w.ex, fun c h => w.at_ c (List.mem_cons_of_mem _ h), (List.nodup_cons.mp w.nd).2⟩
/-- the first cell is written -/
theorem Wd.write (w : Wd G H ((l, cp) :: cs)) {o : HO} (h : cp'.p G o) : Wd G (upd H l o) ((l, cp') :: cs) := by
  refine ⟨fun a u e => ?_, fun c hc => ?_, w.nd⟩
  · rw [upd_ne (fun z => by subst z; rw [w.head.1] at e; cases e)]; exact w.ex a u e
  · rcases List.mem_cons.mp hc with hc | hc
    · subst hc; exact ⟨w.head.1, o, upd_same, h⟩
    · obtain ⟨h1, o', h2, h3⟩ := w.tail.at_ c hc
      have hne : c.1 ≠ l := fun z => (List.nodup_cons.mp w.nd).1 (by rw [← z]; exact List.mem_map_of_mem (f := (·.1)) hc)
      exact ⟨h1, o', by rw [upd_ne hne]; exact h2, h3⟩
end
/-! ### promises -/
/-- what is handed back is data -/
def PF {ι α : Type} (A : AR ι) (R : Rep α) (f : ι → Option α) : Sp := fun vs H Q _ => ∃ G i x, Ex G H ∧ A.r G vs i ∧ f i = some x ∧ ∀ v H2 G2, Up G H G2 H2 → R.r G2 v x → Q v H2
/-- a new list is handed back -/
def PL {ι α : Type} (A : AR ι) (R : Rep α) (f : ι → Option (List α)) : Sp := fun vs H Q _ => ∃ G i x, Ex G H ∧ A.r G vs i ∧ f i = some x ∧
  ∀ p H2 G2, H p = none → Up G H G2 H2 → Wd G2 H2 [(p, cL R x)] → Q (.ref p) H2
def PM {ι κ α : Type} (A : AR ι) (ci : ι → κ → Cs) (R : Rep α) (f : ι → κ → Option (α × κ)) : Sp := fun vs H Q _ => ∃ G i k x k', A.r G vs i ∧ Wd G H (ci i k) ∧ f i k = some (x, k') ∧
  ∀ v H2 G2, Fr G H G2 H2 ((ci i k).map (·.1)) → Wd G2 H2 (ci i k') → R.r G2 v x → Q v H2
def PML {ι κ α : Type} (A : AR ι) (ci : ι → κ → Cs) (R : Rep α) (f : ι → κ → Option (List α × κ)) : Sp := fun vs H Q _ => ∃ G i k x k', A.r G vs i ∧ Wd G H (ci i k) ∧ f i k = some (x, k') ∧
  ∀ p H2 G2, H p = none → Fr G H G2 H2 ((ci i k).map (·.1)) → Wd G2 H2 ((p, cL R x) :: ci i k') → Q (.ref p) H2
theorem Wd.app {G H : Hp} {a b : Cs} (w : Wd G H (a ++ b)) : Wd G H a ∧ Wd G H b := ⟨⟨w.ex, fun c h => w.at_ c (List.mem_append_left _ h), by
  have := w.nd; rw [List.map_append] at this; exact (List.nodup_append.mp this).1⟩, ⟨w.ex, fun c h => w.at_ c (List.mem_append_right _ h), by
  have := w.nd; rw [List.map_append] at this; exact (List.nodup_append.mp this).2.1⟩⟩
theorem Wd.join {G H G2 H2 : Hp} {a a' b : Cs} (w : Wd G H (a ++ b)) (f : Fr G H G2 H2 (a.map (·.1))) (w2 : Wd G2 H2 a') (e : a'.map (·.1) = a.map (·.1)) : Wd G2 H2 (a' ++ b) := by
  have nd : (a.map (·.1) ++ b.map (·.1)).Nodup := by have := w.nd; rw [List.map_append] at this; exact this
  refine ⟨w2.ex, fun c h => ?_, by rw [List.map_append, e]; exact nd⟩
  rcases List.mem_append.mp h with h | h
  · exact w2.at_ c h
  · obtain ⟨h1, o, h2, h3⟩ := w.app.2.at_ c h
    have hn : c.1 ∉ a.map (·.1) := fun z => (List.nodup_append.mp nd).2.2 _ z _ (List.mem_map_of_mem h) rfl
    exact ⟨f.nw _ (by rw [h2]; simp) h1, o, f.fr _ _ h2 hn, c.2.mono f.gg h3⟩
theorem Fr.write {G H : Hp} {l : Addr} {o : HO} : Fr G H G (upd H l o) [l] := ⟨Ex.refl _, fun a u h1 h2 => by rw [upd_ne (fun z => h2 (by rw [z]; exact List.mem_cons_self ..))]; exact h1, fun _ _ h => h, fun a h => by
  by_cases q : a = l
  · subst q; rw [upd_same]; simp
  · rw [upd_ne q]; exact h⟩
end Sim

namespace Sim
open PySem L2 Evl
section
variable {K : PySem.W.Frag} {σ : L2.St} {G H G' W W' : Hp} {ta tb te tc : TE} {t u : TT} {α β γ ι κ : Type} {R : Rep α} {S : Rep β} {T : Rep γ} {A : AR ι}

/-! ### mirrors of operations that may lack an answer -/
def mulM (a b : Int) : Option Int := if (-(2 ^ 64) < a ∧ a < 2 ^ 64) ∨ (-(2 ^ 64) < b ∧ b < 2 ^ 64) then some (a * b) else none
def modM (a b : Int) : Option Int := if 0 < b then some (a % b) else none
def fdivM (a b : Int) : Option Int := if 0 < b ∧ b < 1073741824 then some (a / b) else none
def orO (a : Option Bool) (b : Option Bool) : Option Bool := a >>= fun x => bif x then some true else b
theorem rr_add : RR (rI0 fun i j => .int (i + j)) rI rI rI (fun i j => some (i + j)) := rr_I0 fun _ _ _ => rfl
theorem rr_mul : RR (L2.rI CMul fun i j => .int (i * j)) rI rI rI mulM := rr_I fun i j z h => by
  unfold mulM at h
  split at h
  · rename_i hc; cases h; exact ⟨hc, fun _ => rfl⟩
  · cases h
theorem rr_mod : RR (L2.rI (fun _ j => 0 < j) fun i j => .int (i % j)) rI rI rI modM := rr_I fun i j z h => by
  unfold modM at h
  split at h
  · rename_i hc; cases h; exact ⟨hc, fun _ => rfl⟩
  · cases h
theorem rr_fdiv : RR (L2.rI CDiv fun i j => .int (i / j)) rI rI rI fdivM := rr_I fun i j z h => by
  unfold fdivM at h
  split at h
  · rename_i hc; cases h; exact ⟨hc, fun _ => rfl⟩
  · cases h
theorem rr_lt : RR (rI0 fun i j => .bl (decide (i < j))) rI rI rB (fun i j => some (decide (i < j))) := rr_I0 fun _ _ _ => rfl
theorem rr_gt : RR (rI0 fun i j => .bl (decide (j < i))) rI rI rB (fun i j => some (decide (j < i))) := rr_I0 fun _ _ _ => rfl
theorem rr_eqI : RR rEq rI rI rB (fun i j => some (i == j)) := fun v w x y z H G hv hw hz e Q q => by
  cases hv; cases hw; cases hz
  exact ⟨rfl, q _ H G (Up.refl e) (congrArg V.bl dec_int)⟩
theorem rr_ixL : RR (rIxL K) (rL R) rI R (fun xs i => atI xs i) := fun v w xs i z H G hv hw hz e Q q => by
  obtain ⟨a, vs, rfl, h2, h3⟩ := hv
  cases hw
  have hz' : (ixN xs.length i).bind (fun j => xs[j]?) = some z := hz
  cases hj : ixN xs.length i with
  | none => rw [hj] at hz'; cases hz'
  | some j =>
    rw [hj] at hz'
    obtain ⟨y, h4, h5⟩ := pr_get h3 (show xs[j]? = some z from hz')
    refine ⟨a, vs, i, y, rfl, rfl, Or.inl (Or.inl (e a _ h2)), ?_, q y H G (Up.refl e) h5⟩
    show (ixN vs.length i).bind (fun j => vs[j]?) = some y
    rw [h3.length, hj]; exact h4
/-- never None -/
def Rep.NN (R : Rep α) : Prop := ∀ {H : Hp} {v : V} {x : α}, R.r H v x → v ≠ .non
/-- flat values: in -/
structure FlR (R : Rep α) (eq : α → α → Bool) : Prop where
  fl : ∀ {H : Hp} {v : V} {x : α}, R.r H v x → flatV v = true
  eq : ∀ {H H' : Hp} {v w : V} {x y : α}, R.r H v x → R.r H' w y → eqV v w = eq x y
theorem flS : FlR rS (fun a b => a == b) := ⟨fun h => by rw [show _ = V.str _ from h]; rfl, fun h h' => by rw [show _ = V.str _ from h, show _ = V.str _ from h']; rfl⟩
theorem pr_inV {eq : α → α → Bool} (f : FlR R eq) {H H' : Hp} {v : V} {x : α} (hv : R.r H' v x) : ∀ {vs : List V} {xs : List α}, Paired (R.r H) vs xs → inV v vs = xs.any (fun y => eq y x) ∧ vs.all flatV = true
  | _, _, .nil => ⟨rfl, rfl⟩
  | _, _, .cons r t => by
    obtain ⟨h1, h2⟩ := pr_inV f hv t
    refine ⟨?_, ?_⟩
    · show (eqV _ v || _) = (eq _ x || _)
      rw [f.eq r hv]; exact congrArg _ h1
    · show (flatV _ && _) = true
      rw [f.fl r]; exact h2
theorem rr_inL {eq : α → α → Bool} (f : FlR R eq) : RR (rIn K false) R (rL R) rB (fun x xs => some (xs.any fun y => eq y x)) := fun v w x xs z H G hv hw hz e Q q => by
  cases hz
  obtain ⟨a, vs, rfl, h2, h3⟩ := hw
  obtain ⟨h4, h5⟩ := pr_inV f hv h3
  refine ⟨a, vs, rfl, Or.inl (Or.inl (Or.inl (e a _ h2))), f.fl hv, h5, q _ H G (Up.refl e) (congrArg V.bl ?_)⟩
  exact h4
/-! ### and, or, not, if -/
theorem et_T {m : Option Bool} (h : E te σ W W rB m) : ET (tTest te) σ W m := fun b hb H e Q q => h b hb H e e _ fun v H2 G2 u r => ⟨b, r, q H2 u.hh⟩
theorem et_or {a b : Option Bool} (h1 : ET t σ G a) (h2 : ET u σ G b) : ET (tOr t u) σ G (orO a b) := fun z hz H e Q q => by
  obtain ⟨x, hx, hz⟩ := bindS hz
  refine h1 x hx H e _ fun H1 e1 => ?_
  cases x with
  | false => exact h2 z hz H1 (e.trans e1) Q fun H2 e2 => q H2 (e1.trans e2)
  | true => cases hz; exact q H1 e1
/-! ### arguments, calls -/
theorem ea_nil : EA tNil σ G W aN (some ()) := fun x hx H e e' Q q => q [] H G (Up.refl e) rfl
theorem ea_cons {tr : TA} {ma : Option α} {mr : Option ι} (h : E ta σ G W R ma) (hr : EA tr σ G W A mr) : EA (tCons ta tr) σ G W (aC R A) (ma >>= fun x => mr >>= fun y => some (x, y)) := fun z hz H e e' Q q => by
  obtain ⟨x, hx, hz⟩ := bindS hz
  obtain ⟨y, hy, hz⟩ := bindS hz
  cases hz
  refine h x hx H e e' _ fun v H1 G1 u1 r1 => ?_
  refine (hr.mono u1.gg (e'.trans u1.hh)) y hy H1 u1.gh (Ex.refl _) _ fun w H2 G2 u2 r2 => ?_
  exact q (v :: w) H2 G2 (u1.trans u2) ⟨v, w, rfl, R.mono u2.gg r1, r2⟩
def RC (r : List V → Hp → VK → Prop) (A : AR ι) (T : Rep γ) (f : ι → Option γ) : Prop :=
  ∀ vs i z H G, A.r G vs i → f i = some z → Ex G H → ∀ Q : VK, (∀ u H2 G2, Up G H G2 H2 → T.r G2 u z → Q u H2) → r vs H Q
theorem e_cb {r : List V → Hp → VK → Prop} {f : ι → Option γ} {ta : TA} {m : Option ι} (hr : RC r A T f) (ha : EA ta σ G W A m) : E (tCB r ta) σ G W T (m >>= f) := fun z hz H e e' Q q => by
  obtain ⟨i, hi, hz⟩ := bindS hz
  refine ha i hi H e e' _ fun vs H1 G1 u1 r1 => ?_
  exact hr vs i z H1 G1 r1 hz u1.gh Q fun u H2 G2 u2 r2 => q u H2 G2 (u1.trans u2) r2
theorem e_call {f : ι → Option γ} {ta : TA} {m : Option ι} {X : XK} (ha : EA ta σ G W A m) : E (tCall (PF A T f) [] X ta) σ G W T (m >>= f) := fun z hz H e e' Q q => by
  obtain ⟨i, hi, hz⟩ := bindS hz
  refine ha i hi H e e' _ fun vs H1 G1 u1 r1 => ?_
  rw [List.append_nil]
  exact ⟨G1, i, z, u1.gh, r1, hz, fun v H2 G2 u2 r2 => q v H2 G2 (u1.trans u2) r2⟩
theorem el_call {f : ι → Option (List γ)} {ta : TA} {m : Option ι} {X : XK} (ha : EA ta σ G W A m) : EL (tCall (PL A T f) [] X ta) σ G W T (m >>= f) := fun z hz H e e' Q q => by
  obtain ⟨i, hi, hz⟩ := bindS hz
  refine ha i hi H e e' _ fun vs H1 G1 u1 r1 => ?_
  rw [List.append_nil]
  exact ⟨G1, i, z, u1.gh, r1, hz, fun p H2 G2 hp u2 w => q p H2 G2 (fresh_back u1.hh hp) (u1.trans u2) w⟩

/-! ### built-ins -/
theorem sz_l {n : Nat} (h : sz n = true) : n < sizeLine := sz_lt (of_decide_eq_true h)
abbrev rLn (K : PySem.W.Frag) : List V → Hp → VK → Prop := fun xs H Q => ∃ p ys, xs = [.ref p] ∧ (SqL K H p ys ∨ SqT K H p ys) ∧ Q (.int ys.length) H
theorem rc_lenL : RC (rLn K) (aC (rL R) aN) rI (fun i => some (i.1.length : Int)) := fun vs i z H G hv hz e Q q => by
  cases hz
  obtain ⟨v, ws, rfl, ⟨a, us, rfl, h2, h3⟩, rfl⟩ := hv
  refine ⟨a, us, rfl, Or.inl (Or.inl (Or.inl (e a _ h2))), q _ H G (Up.refl e) ?_⟩
  show V.int _ = V.int _
  rw [h3.length]
theorem wd_new {vs : List V} {xs : List α} {p : Addr} (e : Ex G H) (n : H p = none) (h : Paired (R.r G) vs xs) : Wd G (upd H p (.lst vs)) [(p, cL R xs)] := (Wd.nil e).new n ⟨vs, rfl, h⟩
theorem up_new {p : Addr} {o : HO} (e : Ex G H) (n : H p = none) : Up G H G (upd H p o) := Up.same e (Ex.new n)
abbrev rTp (K : PySem.W.Frag) : List V → Hp → VK → Prop := fun xs H Q => ∃ p ys, xs = [.ref p] ∧ ((SqL K H p ys ∧ ∀ l, H l = none → Q (.ref l) (upd H l (.tup ys))) ∨ (SqT K H p ys ∧ Q (.ref p) H))
theorem rc_tupleL : RC (rTp K) (aC (rL R) aN) (rT R) (fun i => some i.1) := fun vs i z H G hv hz e Q q => by
  cases hz
  obtain ⟨v, ws, rfl, ⟨a, us, rfl, h2, h3⟩, rfl⟩ := hv
  refine ⟨a, us, rfl, Or.inl ⟨Or.inl (Or.inl (e a _ h2)), fun l hl => q _ _ _ (Up.lay e hl) ⟨l, us, rfl, Or.inl upd_same, Paired.mapP h3 fun _ _ => R.mono (Ex.new (fresh_back e hl))⟩⟩⟩
abbrev rAbs : List V → Hp → VK → Prop := fun xs H Q => ∃ i, xs = [.int i] ∧ Q (.int (if i < 0 then -i else i)) H
theorem rc_abs : RC rAbs (aC rI aN) rI (fun i => some (if i.1 < 0 then -i.1 else i.1)) := fun vs i z H G hv hz e Q q => by
  cases hz
  obtain ⟨v, ws, rfl, rfl, rfl⟩ := hv
  exact ⟨_, rfl, q _ H G (Up.refl e) rfl⟩
abbrev rMn : List V → Hp → VK → Prop := fun xs H Q => ∃ i j, xs = [.int i, .int j] ∧ Q (.int (if j < i then j else i)) H
theorem rc_min2 : RC rMn (aC rI (aC rI aN)) rI (fun i => some (if i.2.1 < i.1 then i.2.1 else i.1)) := fun vs i z H G hv hz e Q q => by
  cases hz
  obtain ⟨v, ws, rfl, rfl, v2, ws2, rfl, rfl, rfl⟩ := hv
  exact ⟨_, _, rfl, q _ H G (Up.refl e) rfl⟩
abbrev rInt : List V → Hp → VK → Prop := fun xs H Q => (∃ i, xs = [.int i] ∧ Q (.int i) H) ∨ ∃ k, xs = [.bl k] ∧ Q (.int (if k then 1 else 0)) H
theorem rc_intI : RC rInt (aC rI aN) rI (fun i => some i.1) := fun vs i z H G hv hz e Q q => by
  cases hz
  obtain ⟨v, ws, rfl, rfl, rfl⟩ := hv
  exact Or.inl ⟨_, rfl, q _ H G (Up.refl e) rfl⟩
theorem rc_intB : RC rInt (aC rB aN) rI (fun i => some (if i.1 then 1 else 0)) := fun vs i z H G hv hz e Q q => by
  cases hz
  obtain ⟨v, ws, rfl, rfl, rfl⟩ := hv
  exact Or.inr ⟨_, rfl, q _ H G (Up.refl e) rfl⟩
/-! ### displays -/
theorem e_pair {ma : Option α} {mb : Option β} (ha : E ta σ G W R ma) (hb : E tb σ G W S mb) : E (tTup (tCons ta (tCons tb tNil))) σ G W (rP R S) (ma >>= fun x => mb >>= fun y => some (x, y)) := fun z hz H e e' Q q => by
  obtain ⟨x, hx, hz⟩ := bindS hz
  obtain ⟨y, hy, hz⟩ := bindS hz
  cases hz
  refine ha x hx H e e' _ fun v H1 G1 u1 r1 => ?_
  refine (hb.mono u1.gg (e'.trans u1.hh)) y hy H1 u1.gh (Ex.refl _) _ fun w H2 G2 u2 r2 => ?_
  refine ⟨by show 2 ≤ sizeLine; decide, fun p hp => q _ _ _ ((u1.trans u2).trans (Up.lay u2.gh hp)) ⟨p, v, w, rfl, upd_same, R.mono (u2.gg.trans (Ex.new (fresh_back u2.gh hp))) r1, S.mono (Ex.new (fresh_back u2.gh hp)) r2⟩⟩
end
end Sim

namespace Sim
open PySem L2 Evl

/-! ### mirrors of loops -/
inductive Stp (σ ρ : Type) where
  | nx (s : σ)
  | br (s : σ)
  | rt (r : ρ)
section
variable {α σ ρ : Type}
def stpK (k : σ → Option (σ ⊕ ρ)) : Stp σ ρ → Option (σ ⊕ ρ)
  | .nx s => k s
  | .br s => some (.inl s)
  | .rt r => some (.inr r)
def forL (body : α → σ → Option (Stp σ ρ)) : List α → σ → Option (σ ⊕ ρ)
  | [], s => some (.inl s)
  | x :: xs, s => body x s >>= stpK (forL body xs)
def forS (body : α → σ → Option σ) : List α → σ → Option σ
  | [], s => some s
  | x :: xs, s => body x s >>= forS body xs
theorem drop_at {xs : List α} {i : Nat} {x : α} (h : xs[i]? = some x) : xs.drop i = x :: xs.drop (i + 1) := by
  obtain ⟨hl, e⟩ := List.getElem?_eq_some_iff.mp h
  rw [List.drop_eq_getElem_cons hl, e]
theorem forL_at {body : α → σ → Option (Stp σ ρ)} {xs : List α} {i : Nat} {x : α} {s : σ} {r : σ ⊕ ρ} (h : xs[i]? = some x) (hm : forL body (xs.drop i) s = some r) :
    ∃ t, body x s = some t ∧ stpK (forL body (xs.drop (i + 1))) t = some r := by
  rw [drop_at h] at hm
  exact bindS hm
theorem forL_end {body : α → σ → Option (Stp σ ρ)} {xs : List α} {s : σ} {r : σ ⊕ ρ} (hm : forL body (xs.drop xs.length) s = some r) : .inl s = r := by
  rw [List.drop_length] at hm
  exact Option.some.inj hm
theorem forS_at {body : α → σ → Option σ} {xs : List α} {i : Nat} {x : α} {s r : σ} (h : xs[i]? = some x) (hm : forS body (xs.drop i) s = some r) :
    ∃ t, body x s = some t ∧ forS body (xs.drop (i + 1)) t = some r := by
  rw [drop_at h] at hm
  exact bindS hm
theorem forS_end {body : α → σ → Option σ} {xs : List α} {s r : σ} (hm : forS body (xs.drop xs.length) s = some r) : s = r := by
  rw [List.drop_length] at hm
  exact Option.some.inj hm
end
/-- range(lo, hi) -/
def rng (lo hi : Int) : List Int := (List.range (hi - lo).toNat).map fun (i : Nat) => lo + (i : Int)
theorem rng_get {lo hi : Int} {i : Nat} (h : i < (hi - lo).toNat) : (rng lo hi)[i]? = some (lo + i) := by
  unfold rng
  rw [List.getElem?_map, List.getElem?_range h]
  rfl
theorem rng_len (lo hi : Int) : (rng lo hi).length = (hi - lo).toNat := by
  unfold rng
  rw [List.length_map, List.length_range]
def rngM (lo hi : Int) : Option (List Int) := if -100000 ≤ lo ∧ lo ≤ 100000 ∧ -100000 ≤ hi ∧ hi ≤ 100000 then some (rng lo hi) else none

/-! ### the world of a def -/
section
variable {K : PySem.W.Frag} {σ : L2.St} {G0 H0 G H G2 H2 : Hp} {ls : List Addr} {cs : Cs} {l : Addr} {cp cp' : CP} {ta tb te tc : TE} {t u : TT} {α β γ ι κ : Type} {R : Rep α} {S : Rep β} {T : Rep γ} {A : AR ι}
theorem Wo.start (e : Ex G H) : Wo G H [] G H [] := ⟨Wd.nil e, Fr.refl, fun _ h => absurd h List.not_mem_nil⟩
theorem Wo.startC (w : Wd G H cs) : Wo G H (cs.map (·.1)) G H cs := ⟨w, Fr.refl, fun c h => .inl (List.mem_map_of_mem (f := (·.1)) h)⟩
theorem Wo.rlAt {i : Nat} {xs : List α} (w : Wo G0 H0 ls G H cs) (h : cs[i]? = some (l, cL R xs)) : (rL R).r H (.ref l) xs := by
  obtain ⟨h1, o, h2, vs, rfl, h3⟩ := w.w.getAt h
  exact ⟨l, vs, rfl, h2, Paired.mapP h3 fun _ _ => R.mono w.ex⟩
theorem set_map {i : Nat} {c : Addr × CP} (h : cs[i]? = some c) : (cs.set i (c.1, cp')).map (·.1) = cs.map (·.1) := by
  rw [List.map_set]
  have : (cs.map (·.1))[i]? = some c.1 := by rw [List.getElem?_map, h]; rfl
  obtain ⟨hl, e⟩ := List.getElem?_eq_some_iff.mp this
  conv => lhs; rw [← e]
  exact List.set_getElem_self hl
theorem mem_set_cell {i : Nat} {c : Addr × CP} (nd : (cs.map (·.1)).Nodup) (h : cs[i]? = some (l, cp)) (hc : c ∈ cs.set i (l, cp')) : c = (l, cp') ∨ (c ∈ cs ∧ c.1 ≠ l) := by
  obtain ⟨j, hj, e⟩ := List.getElem_of_mem hc
  by_cases q : i = j
  · subst q; left; rw [← e]; simp
  · right
    rw [List.getElem_set_ne q] at e
    have hj' : j < cs.length := by rw [List.length_set] at hj; exact hj
    refine ⟨e ▸ List.getElem_mem hj', fun z => q ?_⟩
    have h1 : (cs.map (·.1))[i]? = some l := by rw [List.getElem?_map, h]; rfl
    have h2 : (cs.map (·.1))[j]? = some l := by rw [List.getElem?_map, List.getElem?_eq_getElem hj', e]; exact congrArg some z
    exact nodup_ix nd h1 h2
theorem Wo.writeAt {i : Nat} (w : Wo G0 H0 ls G H cs) (h : cs[i]? = some (l, cp)) {o : HO} (hp : cp'.p G o) : Wo G0 H0 ls G (upd H l o) (cs.set i (l, cp')) := by
  obtain ⟨h1, o1, h2, h3⟩ := w.w.getAt h
  have hl : l ∈ ls ∨ H0 l = none := w.lo _ (List.mem_of_getElem? h)
  refine ⟨⟨fun a u e => ?_, fun c hc => ?_, ?_⟩, w.f.put hl, fun c hc => ?_⟩
  · rw [upd_ne (fun z => by subst z; rw [h1] at e; cases e)]; exact w.ex a u e
  · rcases mem_set_cell w.w.nd h hc with hc | ⟨hc, ne⟩
    · subst hc; exact ⟨h1, o, upd_same, hp⟩
    · obtain ⟨k1, o', k2, k3⟩ := w.w.at_ c hc
      exact ⟨k1, o', by rw [upd_ne ne]; exact k2, k3⟩
  · rw [set_map (c := (l, cp)) h]; exact w.w.nd
  · rcases mem_set_cell w.w.nd h hc with hc | ⟨hc, ne⟩
    · subst hc; exact hl
    · exact w.lo c hc
/-- a new list made by an expression becomes a cell -/
theorem Wo.newL {p : Addr} {xs : List α} (w : Wo G0 H0 ls G H cs) (n : H p = none) (u : Up G H G2 H2) (w2 : Wd G2 H2 [(p, cL R xs)]) : Wo G0 H0 ls G2 H2 ((p, cL R xs) :: cs) := by
  have n0 : H0 p = none := by
    cases q : H0 p with
    | none => rfl
    | some o => exact absurd n (w.f.st p (by rw [q]; simp))
  have w3 := w.up u
  refine ⟨⟨w3.ex, fun c hc => ?_, ?_⟩, w3.f, fun c hc => ?_⟩
  · rcases List.mem_cons.mp hc with hc | hc
    · subst hc; exact w2.head
    · exact w3.w.at_ c hc
  · refine List.nodup_cons.mpr ⟨fun hm => ?_, w.w.nd⟩
    obtain ⟨c, hc, e⟩ := List.mem_map.mp hm
    obtain ⟨_, o', h2, _⟩ := w.w.at_ c hc
    exact ne_of_none h2 n e
  · rcases List.mem_cons.mp hc with hc | hc
    · subst hc; exact .inr n0
    · exact w.lo c hc
/-- a list cell of the def's own becomes data -/
theorem Wo.freezeAt {i : Nat} {xs : List α} (w : Wo G0 H0 ls G H cs) (h : cs[i]? = some (l, cL R xs)) (hl : H0 l = none) : ∃ G2, Wo G0 H0 ls G2 H (cs.eraseIdx i) ∧ Ex G G2 ∧ (rL R).r G2 (.ref l) xs := by
  obtain ⟨h1, o, h2, vs, rfl, h3⟩ := w.w.getAt h
  refine ⟨upd G l (.lst vs), ⟨⟨fun a u e => ?_, fun c hc => ?_, ?_⟩, ⟨w.f.gg.trans (Ex.new h1), w.f.fr, fun a k1 k2 => ?_, w.f.st⟩, fun c hc => w.lo c (List.mem_of_mem_eraseIdx hc)⟩, Ex.new h1, l, vs, rfl, upd_same, Paired.mapP h3 fun _ _ => R.mono (Ex.new h1)⟩
  · by_cases q : a = l
    · subst q; rw [upd_same] at e; cases e; exact h2
    · rw [upd_ne q] at e; exact w.ex a u e
  · obtain ⟨k1, o', k2, k3⟩ := w.w.at_ c (List.mem_of_mem_eraseIdx hc)
    obtain ⟨j, hj, e⟩ := List.getElem?_of_mem hc |>.imp fun _ h => (⟨trivial, h⟩ : True ∧ _)
    have ne : c.1 ≠ l := fun z => by
      rw [List.getElem?_eraseIdx] at e
      have hi : (cs.map (·.1))[i]? = some l := by rw [List.getElem?_map, h]; rfl
      split at e
      · rename_i hlt
        have : (cs.map (·.1))[j]? = some l := by rw [List.getElem?_map, e]; exact congrArg some z
        have := nodup_ix w.w.nd hi this
        omega
      · rename_i hlt
        have : (cs.map (·.1))[j + 1]? = some l := by rw [List.getElem?_map, e]; exact congrArg some z
        have := nodup_ix w.w.nd hi this
        omega
    exact ⟨by rw [upd_ne ne]; exact k1, o', k2, c.2.mono (Ex.new h1) k3⟩
  · exact List.Pairwise.sublist ((List.eraseIdx_sublist cs i).map (·.1)) w.w.nd
  · have ne : a ≠ l := fun z => by subst z; exact k1 hl
    rw [upd_ne ne]; exact w.f.nw a k1 k2
/-- behind a call that changed the i-th cell alone -/
theorem Wo.call1 {i : Nat} (w : Wo G0 H0 ls G H cs) (h : cs[i]? = some (l, cp)) (f : Fr G H G2 H2 [l]) (w2 : Wd G2 H2 [(l, cp')]) : Wo G0 H0 ls G2 H2 (cs.set i (l, cp')) := by
  have hl : l ∈ ls ∨ H0 l = none := w.lo _ (List.mem_of_getElem? h)
  refine ⟨⟨w2.ex, fun c hc => ?_, by rw [set_map (c := (l, cp)) h]; exact w.w.nd⟩, ⟨w.f.gg.trans f.gg, fun a o h1 h2 => ?_, fun a h1 h2 => f.nw a (w.f.st a h1) (w.f.nw a h1 h2), fun a h1 => f.st a (w.f.st a h1)⟩, fun c hc => ?_⟩
  · rcases mem_set_cell w.w.nd h hc with hc | ⟨hc, ne⟩
    · subst hc; exact w2.head
    · obtain ⟨k1, o', k2, k3⟩ := w.w.at_ c hc
      exact ⟨f.nw _ (by rw [k2]; simp) k1, o', f.fr _ _ k2 (fun z => ne (List.mem_singleton.mp z)), c.2.mono f.gg k3⟩
  · refine f.fr a o (w.f.fr a o h1 h2) fun z => ?_
    rw [List.mem_singleton.mp z] at h1 h2
    rcases hl with q | q
    · exact h2 q
    · rw [q] at h1; cases h1
  · rcases mem_set_cell w.w.nd h hc with hc | ⟨hc, ne⟩
    · subst hc; exact hl
    · exact w.lo c hc
theorem Wo.sub1 {i : Nat} (w : Wo G0 H0 ls G H cs) (h : cs[i]? = some (l, cp)) : Wd G H [(l, cp)] := ⟨w.ex, fun c hc => by
  rw [List.mem_singleton.mp hc]; exact w.w.at_ _ (List.mem_of_getElem? h), List.nodup_cons.mpr ⟨List.not_mem_nil, List.nodup_nil⟩⟩
/-- the ends of a def -/
theorem Wo.upE (w : Wo G0 H0 [] G H cs) : Up G0 H0 G H := ⟨w.f.gg, w.ex, fun a o h => w.f.fr a o h List.not_mem_nil, w.f.nw⟩
end
end Sim

namespace Sim
open PySem L2 Evl
section
variable {K : PySem.W.Frag} {σ : L2.St} {G0 H0 G H G2 H2 W : Hp} {ls : List Addr} {cs : Cs} {l : Addr} {cp cp' : CP} {ta tb te tc : TE} {t u : TT} {α β γ ι κ : Type} {R : Rep α} {S : Rep β} {T : Rep γ} {A : AR ι} {D : Ends} {tu tv tz : TS} {g : TG}

/-! ### expressions in the world -/
theorem c_e {m : Option α} {x : α} {Q : VK} (w : Wo G0 H0 ls G H cs) (h : E te σ G H R m) (hm : m = some x) (k : ∀ v H2 G2, Wo G0 H0 ls G2 H2 cs → Ex G G2 → R.r G2 v x → Q v H2) : te σ H Q :=
  h x hm H w.ex (Ex.refl _) Q fun v H2 G2 u r => k v H2 G2 (w.up u) u.gg r
/-- scalars: the value is written out, the data heap stays -/
theorem c_i {m : Option Int} {x : Int} {Q : VK} (w : Wo G0 H0 ls G H cs) (h : E te σ G H rI m) (hm : m = some x) (k : ∀ H2, Wo G0 H0 ls G H2 cs → Q (.int x) H2) : te σ H Q :=
  h x hm H w.ex (Ex.refl _) Q fun v H2 G2 u r => by cases r; exact k H2 (w.sc u.hh)
theorem c_s {m : Option Str} {x : Str} {Q : VK} (w : Wo G0 H0 ls G H cs) (h : E te σ G H rS m) (hm : m = some x) (k : ∀ H2, Wo G0 H0 ls G H2 cs → Q (.str x) H2) : te σ H Q :=
  h x hm H w.ex (Ex.refl _) Q fun v H2 G2 u r => by cases r; exact k H2 (w.sc u.hh)
theorem c_l {m : Option (List α)} {x : List α} {Q : VK} (w : Wo G0 H0 ls G H cs) (h : EL te σ G H R m) (hm : m = some x) (k : ∀ p H2 G2, H0 p = none → Wo G0 H0 ls G2 H2 ((p, cL R x) :: cs) → Ex G G2 → Q (.ref p) H2) : te σ H Q :=
  h x hm H w.ex (Ex.refl _) Q fun p H2 G2 hp u w2 => k p H2 G2 (by
    cases q : H0 p with
    | none => rfl
    | some o => exact absurd hp (w.f.st p (by rw [q]; simp))) (w.newL hp u w2) u.gg
theorem c_t {m : Option Bool} {b : Bool} {Q : Bool → Hp → Prop} (w : Wo G0 H0 ls G H cs) (h : ET t σ H m) (hm : m = some b) (k : ∀ H2, Wo G0 H0 ls G H2 cs → Q b H2) : t σ H Q :=
  h b hm H (Ex.refl _) Q fun H2 e => k H2 (w.sc e)
/-- an operation on values that stand -/
theorem c_rr {r : R2} {f : α → β → Option γ} {v w' : V} {x : α} {y : β} {z : γ} {Q : VK} (hr : RR r R S T f) (w : Wo G0 H0 ls G H cs) (hv : R.r G v x) (hw : S.r G w' y) (hz : f x y = some z)
    (k : ∀ u H2 G2, Wo G0 H0 ls G2 H2 cs → Ex G G2 → T.r G2 u z → Q u H2) : r v w' H Q := hr v w' x y z H G hv hw hz w.ex Q fun u H2 G2 up r => k u H2 G2 (w.up up) up.gg r
/-! ### a def that changes one cell -/
/-- (l, more) with the cell's items ys: f ys more = (x, ys') -/
abbrev P1 {κ α ι : Type} (A : AR ι) (C : Rep κ) (R : Rep α) (f : List κ → ι → Option (α × List κ)) : Sp := PM (aC rA A) (fun i k => [(i.1, cL C k)]) R (fun i k => f k i.2)
abbrev P1L {κ α ι : Type} (A : AR ι) (C : Rep κ) (R : Rep α) (f : List κ → ι → Option (List α × List κ)) : Sp := PML (aC rA A) (fun i k => [(i.1, cL C k)]) R (fun i k => f k i.2)
theorem c_p1 {C : Rep κ} {f : List κ → ι → Option (α × List κ)} {vs : List V} {i : Nat} {j : ι} {ys ys' : List κ} {x : α} {Q : VK} {X : XK} (w : Wo G0 H0 ls G H cs) (hc : cs[i]? = some (l, cL C ys)) (hv : A.r G vs j) (hz : f ys j = some (x, ys'))
    (k : ∀ v H2 G2, Wo G0 H0 ls G2 H2 (cs.set i (l, cL C ys')) → Ex G G2 → R.r G2 v x → Q v H2) : P1 A C R f (.ref l :: vs) H Q X :=
  ⟨G, (l, j), ys, x, ys', ⟨.ref l, vs, rfl, rfl, hv⟩, w.sub1 hc, hz, fun v H2 G2 fr w2 r => k v H2 G2 (w.call1 hc fr w2) fr.gg r⟩
theorem Wo.call1L {i : Nat} {p : Addr} {cq : CP} (w : Wo G0 H0 ls G H cs) (h : cs[i]? = some (l, cp)) (hp : H p = none) (f : Fr G H G2 H2 [l]) (w2 : Wd G2 H2 [(p, cq), (l, cp')]) : Wo G0 H0 ls G2 H2 ((p, cq) :: cs.set i (l, cp')) := by
  have n0 : H0 p = none := by
    cases q : H0 p with
    | none => rfl
    | some o => exact absurd hp (w.f.st p (by rw [q]; simp))
  have w3 := w.call1 h f w2.tail
  refine ⟨⟨w3.ex, fun c hc => ?_, ?_⟩, w3.f, fun c hc => ?_⟩
  · rcases List.mem_cons.mp hc with hc | hc
    · subst hc; exact w2.head
    · exact w3.w.at_ c hc
  · refine List.nodup_cons.mpr ⟨fun hm => ?_, w3.w.nd⟩
    rw [Sim.set_map (c := (l, cp)) h] at hm
    obtain ⟨c, hc, e⟩ := List.mem_map.mp hm
    obtain ⟨_, o', h2, _⟩ := w.w.at_ c hc
    exact ne_of_none h2 hp e
  · rcases List.mem_cons.mp hc with hc | hc
    · subst hc; exact .inr n0
    · exact w3.lo c hc
theorem c_p1l {C : Rep κ} {f : List κ → ι → Option (List α × List κ)} {vs : List V} {i : Nat} {j : ι} {ys ys' : List κ} {x : List α} {Q : VK} {X : XK} (w : Wo G0 H0 ls G H cs) (hc : cs[i]? = some (l, cL C ys)) (hv : A.r G vs j) (hz : f ys j = some (x, ys'))
    (k : ∀ p H2 G2, H0 p = none → Wo G0 H0 ls G2 H2 ((p, cL R x) :: cs.set i (l, cL C ys')) → Ex G G2 → Q (.ref p) H2) : P1L A C R f (.ref l :: vs) H Q X :=
  ⟨G, (l, j), ys, x, ys', ⟨.ref l, vs, rfl, rfl, hv⟩, w.sub1 hc, hz, fun p H2 G2 hp fr w2 => k p H2 G2 (by
    cases q : H0 p with
    | none => rfl
    | some o => exact absurd hp (w.f.st p (by rw [q]; simp))) (w.call1L hc hp fr w2) fr.gg⟩

/-! ### readings opened -/
theorem o_nil {Q : List V → Hp → Prop} (h : Q [] H) : tNil σ H Q := h
theorem o_cons {tr : TA} {Q : List V → Hp → Prop} (h : ta σ H fun x H1 => tr σ H1 fun xs H2 => Q (x :: xs) H2) : tCons ta tr σ H Q := h
theorem o_op {r : R2} {Q : VK} (h : ta σ H fun x H1 => tb σ H1 fun y H2 => r x y H2 Q) : tOp r ta tb σ H Q := h
theorem o_call {sp : Sp} {X : XK} {ta : TA} {Q : VK} (h : ta σ H fun vs H1 => sp vs H1 Q X) : tCall sp [] X ta σ H Q := by
  show ta σ H fun vs H1 => sp (vs ++ []) H1 Q X
  have : (fun (vs : List V) (H1 : Hp) => sp (vs ++ []) H1 Q X) = fun vs H1 => sp vs H1 Q X := by funext vs H1; rw [List.append_nil]
  rw [this]; exact h
theorem o_cb {r : List V → Hp → VK → Prop} {ta : TA} {Q : VK} (h : ta σ H fun vs H1 => r vs H1 Q) : tCB r ta σ H Q := h
theorem o_var {i : Nat} {v : V} {Q : VK} (hi : σ[i]? = some (some v)) (h : Q v H) : tVar i σ H Q := ⟨v, hi, h⟩
/-! ### statements -/
theorem x_next {f b c : L2.St → Hp → Prop} {r : VK} (h : f σ H) : tNext { nx := f, rt := r, bk := b, ct := c } σ H := h
theorem x_set {i : Nat} {m : Option α} {x : α} (w : Wo G0 H0 ls G H cs) (h : E te σ G H R m) (hm : m = some x) (k : ∀ v H2 G2, Wo G0 H0 ls G2 H2 cs → Ex G G2 → R.r G2 v x → tz D (σ.set i (some v)) H2) : tSeq (tAsg te (gName i)) tz D σ H :=
  c_e (Q := fun x H1 => gName i x σ H1 (tz D)) w h hm k
theorem x_setI {i : Nat} {m : Option Int} {x : Int} (w : Wo G0 H0 ls G H cs) (h : E te σ G H rI m) (hm : m = some x) (k : ∀ H2, Wo G0 H0 ls G H2 cs → tz D (σ.set i (some (.int x))) H2) : tSeq (tAsg te (gName i)) tz D σ H :=
  c_i (Q := fun x H1 => gName i x σ H1 (tz D)) w h hm k
theorem x_setS {i : Nat} {m : Option Str} {x : Str} (w : Wo G0 H0 ls G H cs) (h : E te σ G H rS m) (hm : m = some x) (k : ∀ H2, Wo G0 H0 ls G H2 cs → tz D (σ.set i (some (.str x))) H2) : tSeq (tAsg te (gName i)) tz D σ H :=
  c_s (Q := fun x H1 => gName i x σ H1 (tz D)) w h hm k
theorem x_setL {i : Nat} {m : Option (List α)} {x : List α} (w : Wo G0 H0 ls G H cs) (h : EL te σ G H R m) (hm : m = some x) (k : ∀ p H2 G2, H0 p = none → Wo G0 H0 ls G2 H2 ((p, cL R x) :: cs) → Ex G G2 → tz D (σ.set i (some (.ref p))) H2) : tSeq (tAsg te (gName i)) tz D σ H :=
  c_l (Q := fun x H1 => gName i x σ H1 (tz D)) w h hm k
/-- name = an expression that changes cells: opened -/
theorem x_setO {i : Nat} (h : te σ H fun v H1 => tz D (σ.set i (some v)) H1) : tSeq (tAsg te (gName i)) tz D σ H := h
theorem x_if {m : Option Bool} {b : Bool} (w : Wo G0 H0 ls G H cs) (h : ET t σ H m) (hm : m = some b) (h1 : b = true → ∀ H2, Wo G0 H0 ls G H2 cs → tu { D with nx := tz D } σ H2) (h2 : b = false → ∀ H2, Wo G0 H0 ls G H2 cs → tv { D with nx := tz D } σ H2) :
    tSeq (tIfS t tu tv) tz D σ H := c_t (Q := fun b H1 => if b = true then tu { D with nx := tz D } σ H1 else tv { D with nx := tz D } σ H1) w h hm fun H2 w2 => by
  cases b with
  | true => exact h1 rfl H2 w2
  | false => exact h2 rfl H2 w2
theorem x_ret {m : Option α} {x : α} (w : Wo G0 H0 ls G H cs) (h : E te σ G H R m) (hm : m = some x) (k : ∀ v H2 G2, Wo G0 H0 ls G2 H2 cs → Ex G G2 → R.r G2 v x → D.rt v H2) : tSeq (tRet te) tz D σ H := c_e (Q := D.rt) w h hm k
theorem x_retO (h : te σ H D.rt) : tSeq (tRet te) tz D σ H := h
theorem x_drop (h : te σ H fun _ H1 => tz D σ H1) : tSeq (tDrop te) tz D σ H := h
/-! ### list cells, by methods -/
theorem x_app {i j : Nat} {m : Option α} {x : α} {xs : List α} (w : Wo G0 H0 ls G H cs) (hc : cs[j]? = some (l, cL R xs)) (hs : sz xs.length = true) (hi : σ[i]? = some (some (.ref l))) (h : E te σ G H R m) (hm : m = some x)
    (k : ∀ H2 G2, Wo G0 H0 ls G2 H2 (cs.set j (l, cL R (xs ++ [x]))) → Ex G G2 → tz D σ H2) : tSeq (tDrop (tBM K "list" rAppend (tVar i) (tCons te tNil))) tz D σ H := by
  obtain ⟨_, o, h2, vs, rfl, h3⟩ := w.w.getAt hc
  refine ⟨.ref l, hi, .inl ⟨rfl, vs, Or.inl (Or.inl h2)⟩, c_e (Q := fun x H1 => rAppend (.ref l) [x] H1 fun _ H3 => tz D σ H3) w h hm fun v H3 G3 w3 e r => ?_⟩
  obtain ⟨_, o3, k2, vs3, rfl, k3⟩ := w3.w.getAt hc
  refine ⟨l, vs3, v, rfl, rfl, k2, by rw [k3.length]; exact sz_l hs, k _ _ (w3.writeAt hc ⟨vs3 ++ [v], rfl, pr_app k3 (.cons r .nil)⟩) e⟩
theorem o_bm0 {rr : V → List V → Hp → VK → Prop} {i j : Nat} {xs : List α} {Q : VK} (w : Wo G0 H0 ls G H cs) (hc : cs[j]? = some (l, cL R xs)) (hi : σ[i]? = some (some (.ref l))) (h : rr (.ref l) [] H Q) : tBM0 K "list" rr (tVar i) σ H Q := by
  obtain ⟨_, o, h2, vs, rfl, h3⟩ := w.w.getAt hc
  exact ⟨.ref l, hi, .inl ⟨rfl, vs, Or.inl (Or.inl h2)⟩, h⟩
/-- xs.pop(), xs.pop(i), insert, reverse, clear -/
def popM (xs : List α) : Option (α × List α) := xs[xs.length - 1]? >>= fun x => some (x, xs.dropLast)
def appM (xs : List α) (x : α) : Option (List α) := bif sz xs.length then some (xs ++ [x]) else none
theorem appM_ok {xs ys : List α} {x : α} (h : appM xs x = some ys) : sz xs.length = true ∧ ys = xs ++ [x] := by
  unfold appM at h
  cases e : sz xs.length with
  | true => rw [e] at h; exact ⟨rfl, (Option.some.inj h).symm⟩
  | false => rw [e] at h; cases h
theorem pr_take {R : V → α → Prop} : ∀ (n : Nat) {vs : List V} {xs : List α}, Paired R vs xs → Paired R (vs.take n) (xs.take n)
  | 0, _, _, _ => .nil
  | n + 1, _, _, .nil => .nil
  | n + 1, _, _, .cons r t => .cons r (pr_take n t)
theorem pr_dropLast {R : V → α → Prop} {vs : List V} {xs : List α} (h : Paired R vs xs) : Paired R vs.dropLast xs.dropLast := by
  rw [List.dropLast_eq_take, List.dropLast_eq_take, h.length]; exact pr_take _ h
theorem pr_rev {R : V → α → Prop} : ∀ {vs : List V} {xs : List α}, Paired R vs xs → Paired R vs.reverse xs.reverse
  | _, _, .nil => .nil
  | _, _, .cons r t => by rw [List.reverse_cons, List.reverse_cons]; exact pr_app (pr_rev t) (.cons r .nil)
theorem c_pop {j : Nat} {x : α} {xs ys : List α} {Q : VK} (w : Wo G0 H0 ls G H cs) (hc : cs[j]? = some (l, cL R xs)) (hm : popM xs = some (x, ys)) (k : ∀ v H2, Wo G0 H0 ls G H2 (cs.set j (l, cL R ys)) → R.r G v x → Q v H2) : rPop (.ref l) [] H Q := by
  obtain ⟨_, o3, k2, vs, rfl, k3⟩ := w.w.getAt hc
  obtain ⟨x', hx, e⟩ := bindS hm
  cases e
  obtain ⟨v, hv, r⟩ := pr_get k3 hx
  exact ⟨l, vs, v, rfl, rfl, k2, by rw [k3.length]; exact hv, k v _ (w.writeAt hc ⟨vs.dropLast, rfl, pr_dropLast k3⟩) r⟩
theorem c_rev {j : Nat} {xs : List α} {Q : VK} (w : Wo G0 H0 ls G H cs) (hc : cs[j]? = some (l, cL R xs)) (k : ∀ H2, Wo G0 H0 ls G H2 (cs.set j (l, cL R xs.reverse)) → Q .non H2) : rReverse (.ref l) [] H Q := by
  obtain ⟨_, o3, k2, vs, rfl, k3⟩ := w.w.getAt hc
  exact ⟨l, vs, rfl, rfl, k2, k _ (w.writeAt hc ⟨_, rfl, pr_rev k3⟩)⟩
/-! ### loops -/
theorem x_forL {xs : List α} {tl : TE} {m : Option (List α)} (w : Wo G0 H0 ls G H cs) (h : E tl σ G H (rL R) m) (hm : m = some xs) (P : Nat → Hp → Hp → L2.St → Prop) (hP : ∀ i G' H' σ', P i G' H' σ' → Ex G' H')
    (h0 : ∀ G' H', Wo G0 H0 ls G' H' cs → Ex G G' → P 0 G' H' σ)
    (hs : ∀ G1, Ex G G1 → ∀ i x v σ' G' H', xs[i]? = some x → Ex G1 G' → P i G' H' σ' → R.r G' v x → g v σ' H' fun σ2 H2 => tu { D with nx := fun σ' H' => ∃ G', Ex G1 G' ∧ P (i + 1) G' H' σ', ct := fun σ' H' => ∃ G', Ex G1 G' ∧ P (i + 1) G' H' σ', bk := tz D } σ2 H2)
    (hd : ∀ σ' G' H', Ex G G' → P xs.length G' H' σ' → tz D σ' H') : tSeq (tFor (iList K tl) g tu) tz D σ H :=
  h xs hm H w.ex (Ex.refl _) _ fun v H1 G1 u r => by
    obtain ⟨a, vs, rfl, h2, h3⟩ := r
    refine ⟨a, rfl, ⟨vs, Or.inl (Or.inl (u.gh a _ h2))⟩, for_list (K := K) (a := a) (xs := vs) (fun i σ' H' => ∃ G', Ex G1 G' ∧ P i G' H' σ') ⟨G1, Ex.refl _, h0 G1 H1 (w.up u) u.gg⟩ ?_ ?_ ?_⟩
    · rintro i σ' H' _ ⟨G', e, p⟩
      exact Or.inl (Or.inl (hP _ _ _ _ p a _ (e a _ h2)))
    · rintro i y σ' H' hy ⟨G', e, p⟩
      obtain ⟨x, hx, r⟩ := pr_get' h3 hy
      exact hs G1 u.gg i x y σ' G' H' hx e p (R.mono e r)
    · rintro σ' H' ⟨G', e, p⟩
      rw [h3.length] at p
      exact hd σ' G' H' (u.gg.trans e) p
theorem x_forR {ta : TA} {n : Int} {m : Option (Int × Unit)} {xs : List Int} (w : Wo G0 H0 ls G H cs) (h : EA ta σ G H (aC rI aN) m) (hm : m = some (n, ())) (hx : rngM 0 n = some xs) (P : Nat → Hp → Hp → L2.St → Prop)
    (h0 : ∀ G' H', Wo G0 H0 ls G' H' cs → Ex G G' → P 0 G' H' σ)
    (hs : ∀ i x σ' G' H', xs[i]? = some x → P i G' H' σ' → g (.int x) σ' H' fun σ2 H2 => tu { D with nx := fun σ' H' => ∃ G', P (i + 1) G' H' σ', ct := fun σ' H' => ∃ G', P (i + 1) G' H' σ', bk := tz D } σ2 H2)
    (hd : ∀ σ' G' H', P xs.length G' H' σ' → tz D σ' H') : tSeq (tFor (iRng1 ta) g tu) tz D σ H :=
  h _ hm H w.ex (Ex.refl _) _ fun v H1 G1 u r => by
    obtain ⟨v1, ws, rfl, e1, rfl⟩ := r
    cases e1
    unfold rngM at hx
    split at hx
    · rename_i hb
      cases hx
      refine ⟨n, rfl, by omega, by omega, for_range (lo := 0) (n := n.toNat) (fun i σ' H' => ∃ G', P i G' H' σ') ⟨G1, h0 G1 H1 (w.up u) u.gg⟩ ?_ ?_⟩
      · rintro i σ' H' hi ⟨G', p⟩
        exact hs i _ σ' G' H' (rng_get (by omega)) p
      · rintro σ' H' ⟨G', p⟩
        refine hd σ' G' H' ?_
        rw [rng_len]
        have : (n - 0).toNat = n.toNat := by omega
        rw [this]; exact p
    · cases hx
theorem g_name {j : Nat} {v : V} {Q : L2.St → Hp → Prop} (h : Q (σ.set j (some v)) H) : gName j v σ H Q := h
theorem g_pair {i j : Nat} {v : V} {p : α × β} {Q : L2.St → Hp → Prop} (r : (rP R S).r G v p) (e : Ex G H) (k : ∀ x y, R.r G x p.1 → S.r G y p.2 → Q ((σ.set i (some x)).set j (some y)) H) : gTup K 2 (gCons (gName i) (gCons (gName j) gNil)) v σ H Q := by
  obtain ⟨a, x, y, rfl, h2, h3, h4⟩ := r
  exact ⟨a, [x, y], rfl, Or.inl (Or.inl (e a _ h2)), rfl, x, [y], rfl, y, [], rfl, rfl, k x y h3 h4⟩
end
end Sim

namespace Sim
open PySem L2 Evl
section
variable {α β : Type}
/-- [f2 x for x in xs if f x] -/
def lcM (f : α → Option Bool) (f2 : α → Option β) : List α → Option (List β)
  | [] => some []
  | x :: xs => f x >>= fun b => bif b then f2 x >>= fun y => lcM f f2 xs >>= fun ys => some (y :: ys) else lcM f f2 xs
/-- [f2 x for x in xs] -/
def mapO (f2 : α → Option β) : List α → Option (List β)
  | [] => some []
  | x :: xs => f2 x >>= fun y => mapO f2 xs >>= fun ys => some (y :: ys)
def lcS (f : α → Option Bool) (f2 : α → Option β) (xs : List α) : Option (List β) := bif sz xs.length then lcM f f2 xs else none
def mapS (f2 : α → Option β) (xs : List α) : Option (List β) := bif sz xs.length then mapO f2 xs else none
theorem lcM_true (f2 : α → Option β) : ∀ xs, lcM (fun _ => some true) f2 xs = mapO f2 xs
  | [] => rfl
  | x :: xs => by
    show (f2 x >>= fun y => lcM (fun _ => some true) f2 xs >>= fun ys => some (y :: ys)) = _
    rw [lcM_true f2 xs]; rfl
theorem mapS_eq (f2 : α → Option β) : mapS f2 = lcS (fun _ => some true) f2 := by
  funext xs
  unfold mapS lcS
  rw [lcM_true]
theorem lcS_ok {f : α → Option Bool} {f2 : α → Option β} {xs : List α} {ys : List β} (h : lcS f f2 xs = some ys) : sz xs.length = true ∧ lcM f f2 xs = some ys := by
  unfold lcS at h
  cases e : sz xs.length with
  | true => rw [e] at h; exact ⟨rfl, h⟩
  | false => rw [e] at h; cases h
end
section
variable {K : PySem.W.Frag} {σ : L2.St} {G H W : Hp} {te tl : TE} {tt : TT} {α β γ : Type} {R : Rep α} {S : Rep β} {T : Rep γ}
/-- a turn's word: the list so far, what is left -/
def Lw (G0 H0 : Hp) (T : Rep γ) (f : α → Option Bool) (f2 : α → Option γ) (xs : List α) (zs : List γ) (D : Addr) (i : Nat) (H : Hp) : Prop :=
  ∃ G acc ys rest, H0 D = none ∧ Up G0 H0 G H ∧ G D = none ∧ H D = some (.lst acc) ∧ Paired (T.r G) acc ys ∧ lcM f f2 (xs.drop i) = some rest ∧ ys ++ rest = zs ∧ ys.length ≤ i
theorem lw_turn {G0 H0 H : Hp} {f : α → Option Bool} {f2 : α → Option γ} {xs : List α} {zs : List γ} {D : Addr} {i : Nat} {x : α} {σ2 : L2.St} (hx : xs[i]? = some x) (hs : sz xs.length = true) (p : Lw G0 H0 T f f2 xs zs D i H)
    (ht : ∀ G', Ex G0 G' → Ex H0 H → Ex G' H → ET tt σ2 H (f x)) (he : ∀ G' H', Ex G0 G' → Ex H0 H' → Ex H H' → Ex G' H' → E te σ2 G' H' T (f2 x)) :
    tt σ2 H fun b H3 => if b = true then te σ2 H3 fun y H4 => ∃ acc, H4 D = some (.lst acc) ∧ acc.length < sizeLine ∧ Lw G0 H0 T f f2 xs zs D (i + 1) (upd H4 D (.lst (acc ++ [y]))) else Lw G0 H0 T f f2 xs zs D (i + 1) H3 := by
  obtain ⟨G, acc, ys, rest, p1, p2, p3, p4, p5, p6, p7, p8⟩ := p
  rw [drop_at hx] at p6
  obtain ⟨b, hb, p6⟩ := bindS p6
  have hi : i < xs.length := (List.getElem?_eq_some_iff.mp hx).1
  refine ht G p2.gg p2.hh p2.gh b hb H (Ex.refl _) _ fun H3 e3 => ?_
  cases b with
  | false => exact ⟨G, acc, ys, rest, p1, p2.trans (Up.same p2.gh e3), p3, e3 _ _ p4, p5, p6, p7, Nat.le_succ_of_le p8⟩
  | true =>
    obtain ⟨y, hy, p6⟩ := bindS p6
    obtain ⟨r2, hr, p6⟩ := bindS p6
    cases p6
    show te σ2 H3 _
    refine he G H3 p2.gg (p2.hh.trans e3) e3 (p2.gh.trans e3) y hy H3 (p2.gh.trans e3) (Ex.refl _) _ fun v H4 G4 u r => ?_
    have q2 : Up G0 H0 G4 H4 := (p2.trans (Up.same p2.gh e3)).trans u
    have q3 : G4 D = none := u.nw D (by rw [e3 _ _ p4]; simp) p3
    have q4 := u.hh _ _ (e3 _ _ p4)
    refine ⟨acc, q4, by rw [p5.length]; exact sz_lt (by have := of_decide_eq_true hs; omega), G4, acc ++ [v], ys ++ [y], r2, p1, ⟨q2.gg, fun a o h => ?_, Ex.mut q2.hh p1, q2.nw⟩, q3, upd_same, pr_app (Paired.mapP p5 fun _ _ => T.mono u.gg) (.cons r .nil), hr, by rw [List.append_assoc]; exact p7, by rw [List.length_append]; exact Nat.succ_le_succ p8⟩
    rw [upd_ne (fun z => by subst z; rw [q3] at h; cases h)]
    exact q2.gh a o h
theorem lw_end {G0 H0 H : Hp} {f : α → Option Bool} {f2 : α → Option γ} {xs : List α} {zs : List γ} {D : Addr} (p : Lw G0 H0 T f f2 xs zs D xs.length H) : ∃ G, H0 D = none ∧ Up G0 H0 G H ∧ Wd G H [(D, cL T zs)] := by
  obtain ⟨G, acc, ys, rest, p1, p2, p3, p4, p5, p6, p7, p8⟩ := p
  rw [List.drop_length] at p6
  cases p6
  rw [List.append_nil] at p7
  subst p7
  exact ⟨G, p1, p2, p2.gh, fun c hc => by
    rw [List.mem_singleton.mp hc]; exact ⟨p3, _, p4, acc, rfl, p5⟩, List.nodup_cons.mpr ⟨List.not_mem_nil, List.nodup_nil⟩⟩
theorem lw_start {G0 H0 : Hp} {f : α → Option Bool} {f2 : α → Option γ} {xs : List α} {zs : List γ} {D : Addr} (e : Ex G0 H0) (hD : H0 D = none) (h : lcM f f2 xs = some zs) : Lw G0 H0 T f f2 xs zs D 0 (upd H0 D (.lst [])) :=
  ⟨G0, [], [], zs, hD, up_new e hD, fresh_back e hD, upd_same, .nil, h, rfl, Nat.le_refl _⟩
theorem el_lcR {ta : TA} {vs : List Nat} {j : Nat} {m : Option (Int × Unit)} {f : Int → Option Bool} {f2 : Int → Option γ} (h : EA ta σ G W (aC rI aN) m) (hw : ∀ x, wipe ((wipe σ vs).set j (some x)) vs = wipe σ vs)
    (ht : ∀ x G' W', Ex G G' → Ex W W' → Ex G' W' → ET tt ((wipe σ vs).set j (some (.int x))) W' (f x))
    (he : ∀ x G' W', Ex G G' → Ex W W' → Ex G' W' → E te ((wipe σ vs).set j (some (.int x))) G' W' T (f2 x)) :
    EL (tLc (iRng1 ta) (gName j) tt te vs) σ G W T (m >>= fun n => rngM 0 n.1 >>= fun xs => lcS f f2 xs) := fun zs hz H e e' Q q => by
  obtain ⟨n, hn, hz⟩ := bindS hz
  obtain ⟨xs, hx, hz⟩ := bindS hz
  obtain ⟨hs, hz⟩ := lcS_ok hz
  refine h n hn H e e' _ fun v H1 G1 u r => ?_
  obtain ⟨v1, ws, rfl, e1, rfl⟩ := r
  cases e1
  unfold rngM at hx
  split at hx
  · rename_i hb
    cases hx
    have hl : (rng 0 n.1).length = n.1.toNat := by rw [rng_len]; omega
    refine ⟨n.1, rfl, by omega, by omega, fun D hD => lc_range (lo := 0) (n := n.1.toNat) (Lw G1 H1 T f f2 (rng 0 n.1) zs D) (lw_start u.gh hD hz) (fun i H' hi p => ?_) fun H' p => ?_⟩
    · have hx' : (rng 0 n.1)[i]? = some (0 + (i : Int)) := rng_get (by omega)
      exact ⟨hw _, lw_turn hx' hs p (fun G' e1 e2 e3 => ht _ G' H' (u.gg.trans e1) ((e'.trans u.hh).trans e2) e3) fun G' H2 e1 e2 _ e3 => he _ G' H2 (u.gg.trans e1) ((e'.trans u.hh).trans e2) e3⟩
    · rw [← hl] at p
      obtain ⟨G', k1, k2, k3⟩ := lw_end p
      exact q D H' G' (fresh_back u.hh k1) (u.trans k2) k3
  · cases hx
/-- the target a pair of names -/
theorem el_lcP {vs : List Nat} {i j : Nat} {m : Option (List (α × β))} {f : α × β → Option Bool} {f2 : α × β → Option γ} (h : E tl σ G W (rL (rP R S)) m) (hw : ∀ x y, wipe (((wipe σ vs).set i (some x)).set j (some y)) vs = wipe σ vs)
    (ht : ∀ p v w G' W', Ex G G' → Ex W W' → Ex G' W' → R.r G' v p.1 → S.r G' w p.2 → ET tt (((wipe σ vs).set i (some v)).set j (some w)) W' (f p))
    (he : ∀ p v w G' W', Ex G G' → Ex W W' → Ex G' W' → R.r G' v p.1 → S.r G' w p.2 → E te (((wipe σ vs).set i (some v)).set j (some w)) G' W' T (f2 p)) :
    EL (tLc (iList K tl) (gTup K 2 (gCons (gName i) (gCons (gName j) gNil))) tt te vs) σ G W T (m >>= fun xs => lcS f f2 xs) := fun zs hz H e e' Q q => by
  obtain ⟨xs, hx, hz⟩ := bindS hz
  obtain ⟨hs, hz⟩ := lcS_ok hz
  refine h xs hx H e e' _ fun v H1 G1 u r => ?_
  obtain ⟨a, us, rfl, h2, h3⟩ := r
  refine ⟨a, rfl, ⟨us, Or.inl (Or.inl (u.gh a _ h2))⟩, fun D hD => lc_list (xs := us) (Lw G1 H1 T f f2 xs zs D) (lw_start u.gh hD hz) (fun i H' _ p => ?_) (fun k y H' hy p => ?_) fun H' p => ?_⟩
  · obtain ⟨G', _, _, _, _, p2, _⟩ := p
    exact Or.inl (Or.inl (p2.gh a _ (p2.gg a _ h2)))
  · obtain ⟨x, hx', b, v, w, rfl, k2, k3, k4⟩ := pr_get' h3 hy
    have k5 : H' b = some (.tup [v, w]) := by
      obtain ⟨G', _, _, _, _, p2, _⟩ := p
      exact p2.gh b _ (p2.gg b _ k2)
    refine ⟨b, [v, w], rfl, Or.inl (Or.inl k5), rfl, v, [w], rfl, w, [], rfl, rfl, hw v w, ?_⟩
    exact lw_turn hx' hs p (fun G' e1 e2 e3 => ht x v w G' H' (u.gg.trans e1) ((e'.trans u.hh).trans e2) e3 (R.mono e1 k3) (S.mono e1 k4)) fun G' H2 e1 e2 _ e3 => he x v w G' H2 (u.gg.trans e1) ((e'.trans u.hh).trans e2) e3 (R.mono e1 k3) (S.mono e1 k4)
  · rw [h3.length] at p
    obtain ⟨G', k1, k2, k3⟩ := lw_end p
    exact q D H' G' (fresh_back u.hh k1) (u.trans k2) k3
theorem et_yes : ET tYes σ W (some true) := fun b hb H _ Q q => by
  cases hb
  exact q H (Ex.refl _)
/-- no test: mapS -/
theorem el_map {m : Option (List α)} {f2 : α → Option γ} {te : TE} (h : EL te σ G W T (m >>= fun xs => lcS (fun _ => some true) f2 xs)) : EL te σ G W T (m >>= fun xs => mapS f2 xs) := by rw [mapS_eq]; exact h
theorem el_mapR {m : Option (Int × Unit)} {f2 : Int → Option γ} {te : TE} (h : EL te σ G W T (m >>= fun n => rngM 0 n.1 >>= fun xs => lcS (fun _ => some true) f2 xs)) : EL te σ G W T (m >>= fun n => rngM 0 n.1 >>= fun xs => mapS f2 xs) := by rw [mapS_eq]; exact h
end
end Sim

namespace Sim
open PySem L2 Evl
section
variable {K : PySem.W.Frag} {σ : L2.St} {G0 H0 G H G2 H2 W : Hp} {ls : List Addr} {cs : Cs} {l : Addr} {cp cp' : CP} {ta tb te tc : TE} {t u : TT} {α β γ ι κ : Type} {R : Rep α} {S : Rep β} {T : Rep γ} {A : AR ι} {D : Ends} {tu tv tz : TS} {g : TG}
theorem et_orP {a b : Bool} (h1 : ET t σ W (some a)) (h2 : ET u σ W (some b)) : ET (tOr t u) σ W (some (a || b)) := by
  have h := et_or h1 h2
  cases a <;> exact h
/-- an option's value where it is one -/
theorem e_some {m : Option α} (h : E te σ G W R m) : E te σ G W (rO R) (m >>= fun x => some (some x)) := fun z hz H e e' Q q => by
  obtain ⟨x, hx, hz⟩ := bindS hz
  cases hz
  exact h x hx H e e' Q q
theorem e_none : E (tC .non) σ G W (rO R) (some none) := e_c rfl
theorem eal_nil : EAL 0 tNil σ G W R (some []) := fun x hx => by
  cases hx
  exact ⟨rfl, fun H e e' Q q => q [] H G (Up.refl e) .nil⟩
theorem eal_cons {n : Nat} {tr : TA} {ma : Option α} {mr : Option (List α)} (h : E ta σ G W R ma) (hr : EAL n tr σ G W R mr) : EAL (n + 1) (tCons ta tr) σ G W R (ma >>= fun x => mr >>= fun xs => some (x :: xs)) := fun z hz => by
  obtain ⟨x, hx, hz⟩ := bindS hz
  obtain ⟨xs, hxs, hz⟩ := bindS hz
  cases hz
  refine ⟨congrArg (· + 1) (hr xs hxs).1, fun H e e' Q q => ?_⟩
  refine h x hx H e e' _ fun v H1 G1 u1 r1 => ?_
  refine ((hr.mono u1.gg (e'.trans u1.hh)) xs hxs).2 H1 u1.gh (Ex.refl _) _ fun vs H2 G2 u2 r2 => ?_
  exact q (v :: vs) H2 G2 (u1.trans u2) (.cons (R.mono u2.gg r1) r2)
theorem el_disp {n : Nat} {ta : TA} {m : Option (List α)} (h : EAL n ta σ G W R m) (hn : n < 100000 := by decide) : EL (tLst ta) σ G W R m := fun z hz H e e' Q q => by
  refine (h z hz).2 H e e' _ fun vs H1 G1 u1 r1 => ?_
  refine ⟨sz_of (by rw [r1.length, (h z hz).1]; exact Nat.le_of_lt hn), fun p hp => q p _ G1 (fresh_back u1.hh hp) (u1.trans (up_new u1.gh hp)) (wd_new u1.gh hp r1)⟩
/-! ### cuts, tests opened -/
theorem o_cut (M : L2.St → Hp → Prop) (h : tSeq tu (fun _ => M) D σ H) (k : ∀ σ' H', M σ' H' → tz D σ' H') : Evl.tCut tu tz D σ H := ⟨M, h, k⟩
end
end Sim

namespace Sim
open PySem L2 Evl
section
variable {K : PySem.W.Frag} {σ : L2.St} {G0 H0 G H G2 H2 W : Hp} {ls : List Addr} {cs : Cs} {l : Addr} {cp cp' : CP} {ta tb te tc : TE} {t u : TT} {α β γ ι κ : Type} {R : Rep α} {S : Rep β} {T : Rep γ} {A : AR ι} {D : Ends} {tu tv tz : TS} {g : TG}
theorem Wo.sub2 {i j : Nat} {l' : Addr} (w : Wo G0 H0 ls G H cs) (h : cs[i]? = some (l, cp)) (h' : cs[j]? = some (l', cp')) (ne : i ≠ j) : Wd G H [(l, cp), (l', cp')] := ⟨w.ex, fun c hc => by
  rcases List.mem_cons.mp hc with hc | hc
  · subst hc; exact w.w.at_ _ (List.mem_of_getElem? h)
  · rw [List.mem_singleton.mp hc]; exact w.w.at_ _ (List.mem_of_getElem? h'), by
  refine List.nodup_cons.mpr ⟨fun z => ?_, List.nodup_cons.mpr ⟨List.not_mem_nil, List.nodup_nil⟩⟩
  have e : l = l' := List.mem_singleton.mp z
  have h1 : (cs.map (·.1))[i]? = some l := by rw [List.getElem?_map, h]; rfl
  have h2 : (cs.map (·.1))[j]? = some l := by rw [List.getElem?_map, h', e]; rfl
  exact ne (nodup_ix w.w.nd h1 h2)⟩
end
/-! ### the text's facts -/
section
variable {fa : List He.Fa} {fn : List He.DefD} {K : PySem.W.Frag} {mg : Str → Option Value} {P : Program} {w : World} {base : Heap}
theorem Tx.def_ (T : Tx fa fn K mg) (i : Nat) {d : He.DefD} (h : fn[i]? = some d) : ∃ fd, FunD K d.name d.qual d.params d.body d.scope (d.dvs K) (d.kws K) (He.fAd K d.at_) fd := T.c.def_ i h
/-- a def by its name, with its promise -/
def Fk (P : Program) (w : World) (K : PySem.W.Frag) (mg : Str → Option Value) (base : Heap) (CX : CXT) (k : Nat) (x : Str) (ps : List Str) (sp : Sp) : Prop :=
  ∃ fd, FnOk P w K mg base CX k (He.ga K x) fd ps sp ∧ Binds K fd ps [] ∧ PySem.W.keepIn K (.ref (He.ga K x)) = true ∧ mg x = some (.ref (He.ga K x))
theorem fk_mk {CX : CXT} {k : Nat} {x qual : Str} {ps : List Str} {sp : Sp} {fd : FuncData} {params : Arguments} {body : List Stmt} {scope : Scope} (T : Tx fa fn K mg) (g : mg x = some (.ref (He.ga K x))) (F : FunD K x qual params body scope [] [] (He.ga K x) fd)
    (hb : ∀ (kV doc pm : Value) (an : Option Addr) (cdv ct : Value) (us : List Value), us.length = ps.length → bindArgs (PySem.W.fnOf x qual params body scope .none kV doc pm an cdv ct) ⟨us, []⟩ = pure (ps.zip us))
    (h : FnOk P w K mg base CX k (He.ga K x) fd ps sp) : Fk P w K mg base CX k x ps sp := ⟨fd, h, F.bindsN hb, F.kp, g⟩
end
end Sim

namespace Sim
open PySem L2 Evl
/-! ### the hook: facts, defs, and further Bools -/
structure SaysE (fa : List He.Fa) (fn : List He.DefD) (ex : List (PySem.W.Frag → Bool)) (K : PySem.W.Frag) : Prop where
  d : He.SaysD fa fn K
  x : (ex.all fun e => e K) = true
theorem TxE.mo {fa : List He.Fa} {fn : List He.DefD} {ex : List (PySem.W.Frag → Bool)} {K : PySem.W.Frag} {mg : Str → Option Value} (T : TxE fa fn ex K mg) (i : Nat) {e : PySem.W.Frag → Bool} (h : ex[i]? = some e) : e K = true := List.all_eq_true.mp T.x e (List.mem_of_getElem? h)
/-! ### objects -/
def pd {α : Type} (R : Rep α) (x : α) : Pd := ⟨fun H v => R.r H v x, fun e h => R.mono e h⟩
section
variable {K : PySem.W.Frag} {σ : L2.St} {G0 H0 G H G2 H2 W : Hp} {ls : List Addr} {cs : Cs} {l C : Addr} {cp cp' : CP} {ta tb te tc to : TE} {t u : TT} {α β γ ι κ : Type} {R : Rep α} {S : Rep β} {T : Rep γ} {A : AR ι} {D : Ends} {tu tv tz : TS} {g : TG} {ns : List Str} {fl : α → List Pd}
/-- the promise of an __init__: fields of the new object -/
def PI {ι α : Type} (C : Addr) (A : AR ι) (ns : List Str) (fl : α → List Pd) (f : ι → Option α) : Sp := fun vs H Q _ => ∃ G x ws i o, vs = .ref x :: ws ∧ Wd G H [(x, cI C [] [])] ∧ A.r G ws i ∧ f i = some o ∧
  ∀ H2 G2, Fr G H G2 H2 [x] → Wd G2 H2 [(x, cI C ns (fl o))] → Q .non H2
theorem o_try {tb : TS} (h : tb { D with nx := tz D } σ H) : tSeq tb tz D σ H := h
/-! ### isinstance, the kind known -/
/-! ### == of data -/
def rNeP (K : PySem.W.Frag) : R2 := fun x y H Q => ∃ d e, Dp K H x d ∧ Dp K H y e ∧ (d.plain = true ∧ d.depth ≤ 64) ∧ (e.plain = true ∧ e.depth ≤ 64) ∧ Q (.bl (!PyData.eqv d e)) H
theorem op_neP {X : Cx} (hu : X.A.units + 64 < cLine) : OpR X (compareOp .NotEq) (rNeP X.K) := by
  intro pins s σ H x y v u Q I rx ry h
  obtain ⟨d, e, hd, he, sd, se, q⟩ := h
  obtain ⟨as, r1⟩ := Dp.reads I d x v hd rx
  obtain ⟨bs, r2⟩ := Dp.reads I e y u he ry
  exact SeqAt.ne_plain r1 r2 sd.1 se.1 (by have := sd.2; omega) ⟨.bl _, H, I, rfl, q⟩
structure Dt (R : Rep α) (d : α → PyData) (n : Nat) : Prop where
  dp : ∀ {K : PySem.W.Frag} {H : Hp} {v : V} {x : α}, R.r H v x → Dp K H v (d x)
  lay : ∀ x, (d x).plain = true
  dep : ∀ x, (d x).depth ≤ n
  eq : ∀ x y, PyData.eqv (d x) (d y) = true ↔ x = y
theorem dtI : Dt rI PyData.int 0 := ⟨fun h => by rw [show _ = V.int _ from h]; exact .int _, fun _ => rfl, fun _ => Nat.le_refl _, fun x y => by simp [PyData.eqv]⟩
theorem dtB : Dt rB PyData.bool 0 := ⟨fun h => by rw [show _ = V.bl _ from h]; exact .bl _, fun _ => rfl, fun _ => Nat.le_refl _, fun x y => by simp [PyData.eqv]⟩
theorem eqvD {d : α → PyData} {n : Nat} [DecidableEq α] (h : Dt R d n) (x y : α) : PyData.eqv (d x) (d y) = decide (x = y) := by
  by_cases e : x = y
  · rw [decide_eq_true e]; exact (h.eq x y).mpr e
  · rw [decide_eq_false e]
    cases q : PyData.eqv (d x) (d y) with
    | false => rfl
    | true => exact absurd ((h.eq x y).mp q) e
theorem rr_neD {d : α → PyData} {n : Nat} [DecidableEq α] (h : Dt R d n) (hn : n ≤ 64) : RR (rNeP K) R R rB (fun x y => some (!decide (x = y))) := fun v w x y z H G hv hw hz e Q q => by
  cases hz
  exact ⟨d x, d y, h.dp (R.mono e hv), h.dp (R.mono e hw), ⟨h.lay x, Nat.le_trans (h.dep x) hn⟩, ⟨h.lay y, Nat.le_trans (h.dep y) hn⟩, q _ H G (Up.refl e) (congrArg (fun b => V.bl (!b)) (eqvD h x y))⟩
end
end Sim

namespace Sim
open PySem L2 Evl
section
variable {K : PySem.W.Frag} {σ : L2.St} {G0 H0 G H G2 H2 W : Hp} {ls : List Addr} {cs : Cs} {l C : Addr} {cp cp' : CP} {ta tb te tc to : TE} {t u : TT} {α β γ ι κ : Type} {R : Rep α} {S : Rep β} {T : Rep γ} {A : AR ι} {D : Ends} {tu tv tz : TS} {g : TG} {ns : List Str} {fl : α → List Pd}
/-! ### a list lent to a def that only reads it -/
theorem Wo.lent {i : Nat} {B : Rep κ} {ys : List κ} (w : Wo G0 H0 ls G H cs) (h : cs[i]? = some (l, cL B ys)) : Lent G H l B ys := by
  obtain ⟨h1, o, h2, vs, rfl, h3⟩ := w.w.getAt h
  exact ⟨h1, vs, h2, h3⟩
end
/-! ### a method by its name, with its promise -/
def Fm (P : Program) (w : World) (K : PySem.W.Frag) (mg : Str → Option Value) (base : Heap) (CX : CXT) (k : Nat) (c m : Str) (ps : List Str) (sp : Sp) : Prop :=
  ∃ fd, FnOk P w K mg base CX k (He.ma K (He.ga K c) m) fd ps sp ∧ Binds K fd ps []
theorem fm_mk {K : PySem.W.Frag} {mg : Str → Option Value} {P : Program} {w : World} {base : Heap} {CX : CXT} {k : Nat} {c m x qual : Str} {ps : List Str} {sp : Sp} {fd : FuncData} {params : Arguments} {body : List Stmt} {scope : Scope} (F : FunD K x qual params body scope [] [] (He.ma K (He.ga K c) m) fd)
    (hb : ∀ (kV doc pm : Value) (an : Option Addr) (cdv ct : Value) (us : List Value), us.length = ps.length → bindArgs (PySem.W.fnOf x qual params body scope .none kV doc pm an cdv ct) ⟨us, []⟩ = pure (ps.zip us))
    (h : FnOk P w K mg base CX k (He.ma K (He.ga K c) m) fd ps sp) : Fm P w K mg base CX k c m ps sp := ⟨fd, h, F.bindsN hb⟩
/-! ### data that is compared -/
section
variable {α β : Type} {R : Rep α} {S : Rep β}
theorem pr_dp {d : α → PyData} {n : Nat} (h : Dt R d n) {K : PySem.W.Frag} {H : Hp} : ∀ {vs : List V} {xs : List α}, Paired (R.r H) vs xs → DpAll K H vs (xs.map d)
  | _, _, .nil => .nil
  | _, _, .cons r t => .cons (h.dp r) (pr_dp h t)
theorem layAll {d : α → PyData} {n : Nat} (h : Dt R d n) : ∀ xs : List α, PyData.plainAll (xs.map d) = true
  | [] => rfl
  | x :: xs => Bool.and_eq_true_iff.mpr ⟨h.lay x, layAll h xs⟩
theorem depAll {d : α → PyData} {n : Nat} (h : Dt R d n) : ∀ xs : List α, PyData.depthAll (xs.map d) ≤ n
  | [] => Nat.zero_le _
  | x :: xs => Nat.max_le.mpr ⟨h.dep x, depAll h xs⟩
theorem eqAll {d : α → PyData} {n : Nat} (h : Dt R d n) : ∀ xs ys : List α, PyData.eqvAll (xs.map d) (ys.map d) = true ↔ xs = ys
  | [], [] => by simp [PyData.eqvAll]
  | x :: xs, y :: ys => by
    simp only [List.map_cons, PyData.eqvAll, Bool.and_eq_true, h.eq, eqAll h xs ys, List.cons.injEq]
  | [], y :: ys => by simp [PyData.eqvAll]
  | x :: xs, [] => by simp [PyData.eqvAll]
theorem dtL {d : α → PyData} {n : Nat} (h : Dt R d n) : Dt (rL R) (fun xs => PyData.list (xs.map d)) (n + 1) :=
  ⟨fun ⟨a, vs, e, h2, h3⟩ => by rw [e]; exact .lst (Or.inl (Or.inl h2)) (pr_dp h h3), fun xs => layAll h xs, fun xs => Nat.succ_le_succ (depAll h xs), fun xs ys => by simp only [PyData.eqv]; exact eqAll h xs ys⟩
theorem dtT {d : α → PyData} {n : Nat} (h : Dt R d n) : Dt (rT R) (fun xs => PyData.tuple (xs.map d)) (n + 1) :=
  ⟨fun ⟨a, vs, e, h2, h3⟩ => by rw [e]; exact .tup (Or.inl h2) (pr_dp h h3), fun xs => layAll h xs, fun xs => Nat.succ_le_succ (depAll h xs), fun xs ys => by simp only [PyData.eqv]; exact eqAll h xs ys⟩
end
end Sim
namespace Sim
open PySem L2 Evl
section
variable {K : PySem.W.Frag} {σ : L2.St} {G0 H0 G H G2 H2 W : Hp} {ls : List Addr} {cs : Cs} {l C : Addr} {te : TE} {α β : Type} {R : Rep α} {S : Rep β} {ns : List Str}
/-- the script -/
def rScr (K : PySem.W.Frag) : Rep (List Int) := ⟨fun H v xs => ∃ a, v = .ref a ∧ SqL K H a (xs.map V.int), fun e ⟨a, h1, h2⟩ => ⟨a, h1, ex_l e h2⟩⟩
theorem rr_ixScr : RR (rIxL K) (rScr K) rI rI (fun xs i => atI xs i) := fun v w xs i z H G hv hw hz e Q q => by
  obtain ⟨a, rfl, h2⟩ := hv
  cases hw
  have hz' : (ixN xs.length i).bind (fun j => xs[j]?) = some z := hz
  cases hj : ixN xs.length i with
  | none => rw [hj] at hz'; cases hz'
  | some j =>
    rw [hj] at hz'
    have hz2 : xs[j]? = some z := hz'
    refine ⟨a, _, i, .int z, rfl, rfl, ex_l e h2, ?_, q _ H G (Up.refl e) rfl⟩
    show (ixN (xs.map V.int).length i).bind (fun j => (xs.map V.int)[j]?) = some (.int z)
    rw [List.length_map, hj]
    show (xs.map V.int)[j]? = _
    rw [List.getElem?_map, hz2]; rfl
theorem rc_lenScr : RC (rLn K) (aC (rScr K) aN) rI (fun i => some (i.1.length : Int)) := fun vs i z H G hv hz e Q q => by
  cases hz
  obtain ⟨v, ws, rfl, ⟨a, rfl, h2⟩, rfl⟩ := hv
  refine ⟨a, _, rfl, Or.inl (ex_l e h2), q _ H G (Up.refl e) ?_⟩
  show V.int _ = V.int _
  rw [List.length_map]
def powM (a b : Int) : Option Int := if 0 ≤ b ∧ b ≤ 1000000 ∧ a.natAbs < 2 ^ 64 then some (a ^ b.toNat) else none
theorem rr_pow : RR (L2.rI CPow fun i j => .int (i ^ j.toNat)) rI rI rI powM := rr_I fun i j z h => by
  unfold powM at h
  split at h
  · rename_i hc; cases h; exact ⟨hc, fun _ => rfl⟩
  · cases h
end
end Sim

set_option maxHeartbeats 4000000
/-! own exceptions: an __init__ whose first statement is super().__init__(text) -/
namespace Sim
open PySem PySem.Spec PyProof.Rows L2 PySem.W PySem.Calls NdefX
section
variable {CX : CXT} {P : Program} {w : World} {K : PySem.W.Frag} {mg : Str → Option Value} {base : Heap} {N ps : List Str} {F : NF} {C f : Addr} {fd : FuncData} {k : Nat} {sp : Sp} {t : Str} {rest : List Stmt} {p0 p1 p2 p3 p4 pc : Pos} {j : Nat} {pl : Sem Bool}
theorem fn_exc (S : NScope N ps ["__class__"] F.scope) (Y : SupC P K mg C f fd F ps) (hbd : F.body = .Expr (.Call (.Attribute (.Call (.Name "super" p0) [] [] p1) "__init__" p2) [.Constant (.str t) j pc] [] p3) p4 :: rest)
    (hev : ∀ L : Addr, eval (.Call (.Attribute (.Call (.Name "super" p0) [] [] p1) "__init__" p2) [.Constant (.str t) j pc] [] p3) (envF F f L) = (do
      let ov ← attributeBase (.Call (.Name "super" p0) [] [] p1) "__init__" (envF F f L) (eval (.Call (.Name "super" p0) [] [] p1) (envF F f L))
      standAt p2.atName
      let (g, first) ← holding [ov] (getMethod ov "__init__" pl)
      callWith p3 g first (backTo p3 (starEach [.Constant (.str t) j pc] (envF F f L))) []))
    (hint : ∀ L : Addr, interactive (envF F f L) = false)
    (len : ∀ vs H Q E, sp vs H Q E → vs.length = ps.length)
    (hbody : ∀ (A : Around) (outer : List Env) (s : Shared) (H : Hp) (vs : List V) (Q : VK) (E : XK), Room k (A.deeper (envF F f s.heap.objs.size)) → sp vs H Q E →
      ∃ a vs', vs = .ref a :: vs' ∧ H a = some (exo a C none) ∧ ∃ t, PSs (ncx CX P w K mg base N F f A outer s H E) rest t ∧ t { nx := fun _ H' => Q .non H', rt := Q } (startF N vs [none]) H) :
    FnOk P w K mg base CX (k + 1) f fd ps sp := by
  obtain ⟨oc, od, osl, kV, doc, pm, an, ct, rfl, lk⟩ := Y.lk
  refine ⟨len, fun A outer s H args us vs Q E hr e0 hb r hsp => ?_⟩
  have hl := len _ _ _ _ hsp
  have KX : K.In s.heap := e0.mod.kin.keeps fun b o e => (e0.bs b o e).1
  have lim : s.heap.NoLimit := e0.mod.nolimit.keeps fun b o e => (e0.bs b o e).1
  refine codeAny_call_function hr.depth (KX _ _ lk) rfl S.co S.gen rfl (PySem.W.codeRec_of KX Y.cd) (hb _ _ _ _ ?_)
  refine wpAny_newFunctionEnv S.nocell (fun ⟨n, _⟩ hy => S.par n (List.of_mem_zip hy).1) (fun h₁ hns hsb => ⟨lim.fresh _ hsb, ?_⟩) S.kind
  show codeAny _ _ (.func F.body (envF F f s.heap.objs.size)) _ _
  have kp : ∀ b o, s.heap.get? b = some o → h₁.get? b = some o := fun b o e => hsb.extBut b o (Nat.ne_of_lt (Heap.lt_size e)) (Heap.get?_push_of_some _ e)
  obtain ⟨a, vs', rfl, ea, tt, ht, hq⟩ := hbody A outer s H vs Q E (hr.deeper _) hsp
  obtain ⟨cc, kc0, kc1, kc2, hcl, hcc⟩ := Y.cl
  have ccb : base.get? cc = some ⟨kc0, kc1, .cell (some (.ref C)), kc2⟩ := e0.mod.kin _ _ hcc
  have CA : CellsAt F.cl ["__class__"] [none] s.heap H := by
    rw [hcl]
    have look : ∀ y c, ([(("__class__" : Str), cc)] : List (Str × Addr)).lookup y = some c → y = "__class__" ∧ c = cc := fun y c e => by
      rw [List.lookup_cons] at e
      cases h : (y == ("__class__" : Str)) with
      | true => rw [h] at e; cases e; exact ⟨eq_of_beq h, rfl⟩
      | false => rw [h] at e; cases e
    refine ⟨rfl, fun y c e => ?_, fun x y c e1 e2 => ?_, fun i y e => ?_⟩
    · obtain ⟨_, rfl⟩ := look y c e
      exact ⟨(e0.bs _ _ ccb).2, _, ⟨_, (e0.bs _ _ ccb).1, rfl⟩⟩
    · rw [(look x c e1).1, (look y c e2).1]
    · cases i with
      | zero =>
        cases e
        exact ⟨cc, by rfl, fun v e => by cases e⟩
      | succ i => cases e
  have I : Inv (ncx CX P w K mg base N F f A outer s H E) [] (startF N (.ref a :: vs') [none]) H { s with heap := h₁, toks := s.toks + (ps.zip us).length } := inv_startN S hr.hd e0 hl r CA hns kp
  refine ks_codeAny_funcAt ?_
  have fin : ∀ {σ' : L2.St} {H' : Hp} {v : V} {u : Value} {s' : Shared}, Inv (ncx CX P w K mg base N F f A outer s H E) [] σ' H' s' → RelV v u → Q v H' → CE outer P w H s Q u s' :=
    fun {σ' H' v u s'} J rv q => ⟨v, H', J.os, J.bare, J.base, J.hok, rv, q⟩
  have tail : ∀ s1 : Shared, Inv (ncx CX P w K mg base N F f A outer s H E) [] (startF N (.ref a :: vs') [none]) H s1 →
      _root_.PySem.wpAt (model P w) (A.deeper (envF F f s.heap.objs.size)) (.func F.body (envF F f s.heap.objs.size)) (execs rest (envF F f s.heap.objs.size)) (fun f s' => CR CX outer P w H s Q E (.ok (.ret (match f with | .ret v => v | _ => .none))) s')
        (fun e s' => wpAny (model P w) (A.deeper (envF F f s.heap.objs.size)) (leaving (envF F f s.heap.objs.size) e) (fun _ s'' => CR CX outer P w H s Q E (.error e) s'') (fun e' s'' => CR CX outer P w H s Q E (.error e') s'') s') s1 := by
    intro s1 I1
    refine wpAt_of_wpAny (wpAny_mono (ht.run [] _ (startF N (.ref a :: vs') [none]) H _ I1 hq) (fun fl s' hs => ?_) fun e s' hs => hs)
    cases fl with
    | ret u =>
      obtain ⟨v, σ', H', J, rv, q⟩ := hs
      exact fin J rv q
    | next =>
      obtain ⟨σ', H', J, q⟩ := hs
      exact fin (v := V.non) (u := Value.none) J rfl q
    | brk =>
      obtain ⟨_, _, _, q⟩ := hs
      exact False.elim q
    | cont =>
      obtain ⟨_, _, _, q⟩ := hs
      exact False.elim q
  rw [hbd]
  rw [← hbd]
  refine (congrArg (fun z => _root_.PySem.wpAt (model P w) (A.deeper (envF F f s.heap.objs.size)) (.func F.body (envF F f s.heap.objs.size)) (execs z (envF F f s.heap.objs.size)) _ _ _) hbd).mpr ?_
  refine ks_wpAt_execs_cons (ks_wpAt_Expr_any (ks_wpAt_MethodCall ?_ (hev _)) (hint _))
  obtain ⟨ar, ps', hp, hps, hka⟩ := Y.par
  obtain ⟨ccl, cdd, cvs, ccs, file, tf, hcode, hvs, hfile⟩ := Y.code
  obtain ⟨cdD, hD⟩ := Y.cls
  obtain ⟨oD, hD1, hD2⟩ : ∃ oD, h₁.get? C = some oD ∧ oD.data = .cls cdD := by
    unfold clsIn at hD
    split at hD
    · rename_i c d cd' sl ho
      cases hD
      exact ⟨_, I.kIn _ _ ho, rfl⟩
    · cases hD
  obtain ⟨t1, ho⟩ := exo_at I.hok ea
  obtain ⟨mb, hb1, hb2⟩ := I.mod.blt
  have hboot : bootBuiltins "super" = some (.type "super") := by kernel_rfl
  refine ks_wpAt_super_base (env := envF F f s.heap.objs.size) (fd := PySem.W.fnX F.name F.qual F.params F.body F.scope F.cl .none kV doc pm an (.ref F.c) ct) Y.ks Y.kc (by decide) rfl (I.kIn _ _ lk) rfl hp rfl (I.kIn _ _ hcode) rfl hvs hfile Y.top ?_
  refine ks_loadName_global S.kind Y.ks (loadGlobal_builtin (env := envF F f s.heap.objs.size) (I.mod.glob.keeps I.bk) Y.mg (hb1.keeps I.bk) ((hb2 _ (by decide)).trans hboot) ⟨rfl, ?_⟩)
  refine wpAny_loadName_free S.kind Y.kc (show List.lookup ("__class__" : Str) F.cl = some cc by rw [hcl]; rfl) ⟨_, I.kIn _ _ hcc, rfl⟩ ?_
  have hself : (ps.zip us).reverse.lookup ar.arg = some (.ref a) := by
    have ndP : ps.Nodup := by
      have q := S.nd.sublist (List.take_sublist (ps.length + [("__class__" : Str)].length) N)
      rw [S.pre] at q
      exact (List.nodup_append.mp q).1
    cases r with
    | cons rx rr =>
      cases rx
      exact zip_look (i := 0) ndP (by rw [hps]; rfl) rfl
  refine wpAny_loadName_local S.kind hka hns hself ?_
  refine ks_wpAny_isType_cls hD1 hD2 ⟨rfl, ?_⟩
  refine ks_wpAny_call_super hD1 hD2 ho rfl (fun c e => by cases e) (looks_mroIn I.kIn Y.sub) (fun h2 e2 k2 => ?_)
  have I2 := I.kept (t' := s.toks + (ps.zip us).length) (h' := h2) k2
  have ho2 := k2 _ _ ho
  have A2 : InstAt h2 a { cls := .ref C, dict := none, data := .fields #[.ref t1, .none, .none, .none, .bool false, .none] } C none := ⟨ho2, rfl, rfl, trivial⟩
  have hI : Looks (model P w) h2 (isInstance (.ref a) (.type "ValueError")) true := A2.type.andThen (looks_subIn I2.kIn Y.ve)
  have hsu := Y.sup
  unfold ks_superIn at hsu
  rw [hD] at hsu
  refine kxs_getMethod kxs_ValueError e2 (looks_opaque I2.kIn Y.opq) (l₀ := cdD.mro) (fun A Q E s k q => wpAny_bind ((looks_clsIn I2.kIn hD) A _ E s k (wpAny_pure q))) rfl I2.kIn hsu hI (ks_ne I2.kIn A2 hD) (by decide) ?_
  have I3 := I2.kept (t' := s.toks + (ps.zip us).length + 1) (h' := h2.push (kxs_mw "ValueError.__init__" a)) (fun b o e => Heap.get?_push_of_some _ e)
  have hu : (h2.push (kxs_mw "ValueError.__init__" a)).get? h2.objs.size = some (kxs_mw "ValueError.__init__" a) := Heap.get?_push_at rfl rfl
  refine kxs_callWith (i := "ValueError.__init__") (x := a) rfl ?_
  refine evalArgs_plain (spliced_cons ?_)
  show wpAny _ _ (eval (.Constant (.str t) j pc) (envF F f s.heap.objs.size)) _ _ _
  refine Calls.Constant_str (spliced_nil ⟨hu, ?_⟩)
  obtain ⟨nm, q, NN, bs, bm, sn, sub, ab, col, dd, k0, k1, k2', k3, k5, hC, hbm⟩ := Y.ex.cls
  have hC3 := I3.kIn _ _ hC
  have ho3 : (h2.push (kxs_mw "ValueError.__init__" a)).get? a = some (PySem.W.excObj C t1 none .none) := Heap.get?_push_of_some _ ho2
  refine wpAny_call (codeAny_of_tree ?_)
  show wpAny _ (A.deeper (envF F f s.heap.objs.size)).in1 (callAny (.ref h2.objs.size) ⟨_, []⟩) _ _ _
  simp only [callAny]
  refine wpAny_bind (wpAny_load hu ?_)
  simp only [kxs_mw, show (Value.type "method-wrapper" == Value.type "method" || Value.type "method-wrapper" == Value.type "builtin_function_or_method" || Value.type "method-wrapper" == Value.type "method-wrapper") = true by decide, if_true]
  refine KFB.if_so (by decide) ?_
  refine wpAny_bind (check_bound_init PySem.F.excBase_ValueError.toExcCallFacts hC3 ho3 rfl ?_)
  refine wpAny_bind (wpAny_pure (wpAny_pure ?_))
  refine ⟨plainId_quiet PySem.F.excBase_ValueError.init.plain _, codeAny_builtin PySem.F.excBase_ValueError.initEntry ?_⟩
  refine exc_init_tree (cls := .ref C) (t0 := t1) (dv := none) (c2 := .none) (c3 := .none) (b4 := .bool false) ho3 (by rw [sizeLine_eq]; simp) (fun h4 kk e4 t4 => ?_)
  have J := I3.write (h' := h4) (t' := s.toks + (ps.zip us).length + 1 + 1) (x := a) (e := a) (o := exo a C none) (by rw [ea]; exact True.intro) (.inl rfl) kk ⟨_, e4⟩ (exo_ok e4)
  have eu : upd H a (exo a C none) = H := by
    funext b
    by_cases hb : b = a
    · rw [hb, upd_same, ea]
    · rw [upd_ne hb]
  rw [eu] at J
  exact tail _ J
end
end Sim

/-! own exceptions: what the top's end says of them -/
namespace Sim
open PySem PySem.Spec PyProof.Rows L2 PySem.W PySem.Calls NdefX
end Sim

/-! own exceptions raised: their mirrors and promises -/
namespace Sim
open PySem PySem.Spec PyProof.Rows L2 Evl NdefX
/-- what the __init__ of an own exception keeps: names the fields, in order -/
def spX (C : Addr) (names : List Str) : Sp := fun vs H Q _ => ∃ a ws, vs = .ref a :: ws ∧ ws.length = names.length ∧ H a = some (exo a C none) ∧
  ∀ dx, H dx = none → dx ≠ a → Q .non (upd (upd H dx (exd dx (names.zip ws).reverse)) a (exo a C (some dx)))
/-- may raise -/
def PX {ι α : Type} (K : PySem.W.Frag) (A : AR ι) (R : Rep α) (f : ι → Option (Xn ⊕ α)) : Sp := fun vs H Q E => ∃ G i r, Ex G H ∧ A.r G vs i ∧ f i = some r ∧
  (∀ e, r = .inl e → ∀ d H2 G2, Up G H G2 H2 → Xat K G2 e d → E (.ref (He.ga K e.cls)) d H2) ∧ (∀ x, r = .inr x → ∀ v H2 G2, Up G H G2 H2 → R.r G2 v x → Q v H2)
section
variable {K : PySem.W.Frag} {σ : L2.St} {G H G0 H0 : Hp} {ls : List Addr} {cs : Cs} {ta : TA} {ι : Type} {A : AR ι}
theorem x_raise {C : Addr} {names : List Str} {m : Option ι} {i : ι} {W : WX} {D : Ends} {tz : TS} (w : Wo G0 H0 ls G H cs) (ha : EA ta σ G H A m) (hm : m = some i)
    (hl : ∀ G vs, A.r G vs i → vs.length = names.length ∧ vs.length ≤ 1000)
    (k : ∀ vs H2 G2 d, Wo G0 H0 ls G2 H2 cs → A.r G2 vs i → Ex G G2 → G2 d = some (.xd (names.zip vs).reverse) → W (.ref C) (some d) σ H2) :
    tSeq (fun _ σ H => tMkO C (spX C names) [] ta σ H fun cls d H' => W cls d σ H') tz D σ H := by
  refine ha i hm H w.ex (Ex.refl _) _ fun vs H1 G1 u r => ?_
  obtain ⟨h1, h2⟩ := hl _ _ r
  refine ⟨h2, fun a na => ⟨a, vs, by rw [List.append_nil], h1, upd_same .., fun dx hdx hne => ⟨rfl, dx, (names.zip vs).reverse, upd_same .., ?_, ?_, ?_⟩⟩⟩
  · rw [upd_ne hne, upd_same]
  · rw [upd_ne hne] at hdx; exact hdx
  · have hdx' : H1 dx = none := by rw [upd_ne hne] at hdx; exact hdx
    have e : upd (del (upd (upd (upd H1 a (exo a C none)) dx (exd dx (names.zip vs).reverse)) a (exo a C (some dx))) a) dx (.xd (names.zip vs).reverse) = upd H1 dx (.xd (names.zip vs).reverse) := by
      funext b
      by_cases hb : b = dx
      · subst hb; rw [upd_same, upd_same]
      · rw [upd_ne hb, upd_ne hb]
        by_cases hba : b = a
        · subst hba; rw [del_same, na]
        · rw [del_ne hba, upd_ne hba, upd_ne hb, upd_ne hba]
    rw [e]
    have u2 := Up.lay (o := HO.xd (names.zip vs).reverse) u.gh hdx'
    have u3 := u.trans u2
    exact k vs _ _ dx ((w.up u).up u2) (A.mono u2.gg r) u3.gg (upd_same ..)
end
end Sim

/-! the __init__ of an own exception, walked -/
namespace Sim
open PySem PySem.Spec PyProof.Rows L2 Evl NdefX
/-- self.f = the i-th name, for each of these -/
def tFlds (K : PySem.W.Frag) : List (Str × Nat) → TS
  | [] => tNext
  | q :: r => tSeq (tOst K q.1 (tVar 0) (tVar q.2)) (tFlds K r)
section
variable {K : PySem.W.Frag} {σ : L2.St} {H : Hp} {a C dx : Addr} {D : Ends}
theorem flds_go (T : OexC K C) (ha : σ[0]? = some (some (.ref a))) (hne : dx ≠ a) : ∀ (r : List (Str × Nat × V)) (fs : List (Str × V)) (H : Hp), (∀ q ∈ r, PySem.W.findIn K (.ref C) q.1 = some none ∧ σ[q.2.1]? = some (some q.2.2)) →
    fs.length + r.length ≤ 900 → H a = some (exo a C (some dx)) → H dx = some (exd dx fs) → D.nx σ (upd H dx (exd dx ((r.map fun q => (q.1, q.2.2)).reverse ++ fs))) → tFlds K (r.map fun q => (q.1, q.2.1)) D σ H
  | [], fs, H, _, _, hA, hD, k => by
    have e : upd H dx (exd dx fs) = H := by
      funext b
      by_cases hb : b = dx
      · rw [hb, upd_same, hD]
      · rw [upd_ne hb]
    have k : D.nx σ (upd H dx (exd dx fs)) := k
    rw [e] at k
    exact k
  | (f, i, y) :: r, fs, H, hq, hl, hA, hD, k => by
    obtain ⟨h1, h2⟩ := hq _ (List.mem_cons_self ..)
    simp only [List.length_cons] at hl
    refine ⟨y, h2, .ref a, ha, a, C, rfl, T, h1, Or.inr ⟨dx, fs, hA, hD, by omega, ?_⟩⟩
    refine flds_go T ha hne r ((f, y) :: fs) _ (fun q h => hq q (List.mem_cons_of_mem _ h)) (by simp only [List.length_cons]; omega) ?_ (upd_same ..) ?_
    · rw [upd_ne (Ne.symm hne)]; exact hA
    · have e : upd (upd H dx (exd dx ((f, y) :: fs))) dx (exd dx ((r.map fun q => (q.1, q.2.2)).reverse ++ (f, y) :: fs)) = upd H dx (exd dx ((((f, i, y) :: r).map fun q => (q.1, q.2.2)).reverse ++ fs)) := by
        funext b
        by_cases hb : b = dx
        · rw [hb, upd_same, upd_same]; simp
        · rw [upd_ne hb, upd_ne hb, upd_ne hb]
      rw [e]
      exact k
theorem flds_all (T : OexC K C) (ha : σ[0]? = some (some (.ref a))) {q0 : Str × Nat × V} {r : List (Str × Nat × V)} (hq : ∀ q ∈ q0 :: r, PySem.W.findIn K (.ref C) q.1 = some none ∧ σ[q.2.1]? = some (some q.2.2)) (hl : r.length ≤ 800) (hA : H a = some (exo a C none))
    (k : ∀ dx, H dx = none → dx ≠ a → D.nx σ (upd (upd H dx (exd dx ((q0 :: r).map fun q => (q.1, q.2.2)).reverse)) a (exo a C (some dx)))) : tFlds K ((q0 :: r).map fun q => (q.1, q.2.1)) D σ H := by
  obtain ⟨f, i, y⟩ := q0
  obtain ⟨h1, h2⟩ := hq _ (List.mem_cons_self ..)
  refine ⟨y, h2, .ref a, ha, a, C, rfl, T, h1, Or.inl ⟨hA, fun dx hdx hne => ?_⟩⟩
  refine flds_go T ha hne r [(f, y)] _ (fun q h => hq q (List.mem_cons_of_mem _ h)) (by simp; omega) (upd_same ..) (by rw [upd_ne hne, upd_same]) ?_
  have e : upd (upd (upd H dx (exd dx [(f, y)])) a (exo a C (some dx))) dx (exd dx ((r.map fun q => (q.1, q.2.2)).reverse ++ [(f, y)])) = upd (upd H dx (exd dx (((f, i, y) :: r).map fun q => (q.1, q.2.2)).reverse)) a (exo a C (some dx)) := by
    funext b
    by_cases hb : b = dx
    · rw [hb, upd_same, upd_ne hne, upd_same]; simp
    · rw [upd_ne hb]
      by_cases hba : b = a
      · rw [hba, upd_same, upd_same]
      · rw [upd_ne hba, upd_ne hba, upd_ne hb, upd_ne hb]
  rw [e]
  exact k dx hdx hne
end
section
variable {CX : CXT} {P : Program} {w : World} {K : PySem.W.Frag} {mg : Str → Option Value} {base : Heap} {N ps : List Str} {F : NF} {C f : Addr} {fd : FuncData} {k : Nat} {t : Str} {rest : List Stmt} {p0 p1 p2 p3 p4 pc : Pos} {j : Nat} {pl : Sem Bool} {names : List Str} {fi : List (Str × Nat)}
theorem xinit (S : NScope N ps ["__class__"] F.scope) (Y : SupC P K mg C f fd F ps) (hbd : F.body = .Expr (.Call (.Attribute (.Call (.Name "super" p0) [] [] p1) "__init__" p2) [.Constant (.str t) j pc] [] p3) p4 :: rest)
    (hev : ∀ L : Addr, eval (.Call (.Attribute (.Call (.Name "super" p0) [] [] p1) "__init__" p2) [.Constant (.str t) j pc] [] p3) (envF F f L) = (do
      let ov ← attributeBase (.Call (.Name "super" p0) [] [] p1) "__init__" (envF F f L) (eval (.Call (.Name "super" p0) [] [] p1) (envF F f L))
      standAt p2.atName
      let (g, first) ← holding [ov] (getMethod ov "__init__" pl)
      callWith p3 g first (backTo p3 (starEach [.Constant (.str t) j pc] (envF F f L))) []))
    (hint : ∀ L : Addr, interactive (envF F f L) = false) (hno : ∀ f ∈ names, PySem.W.findIn K (.ref C) f = some none) (hps : ps.length = names.length + 1)
    (hr : ∀ (a : Addr) (ws : List V), ws.length = names.length → ∃ (q0 : Str × Nat × V) (r : List (Str × Nat × V)), r.length ≤ 800 ∧ ((q0 :: r).map fun q => (q.1, q.2.1)) = fi ∧ ((q0 :: r).map fun q => (q.1, q.2.2)) = names.zip ws ∧ ∀ q ∈ q0 :: r, q.1 ∈ names ∧ (startF N (.ref a :: ws) [none])[q.2.1]? = some (some q.2.2))
    (hrest : ∀ (A : Around) (outer : List Env) (s : Shared) (H : Hp) (E : XK), PSs (ncx CX P w K mg base N F f A outer s H E) rest (tFlds K fi)) :
    FnOk P w K mg base CX (k + 1) f fd ps (spX C names) := by
  refine fn_exc S Y hbd hev hint (fun vs H Q E h => ?_) (fun A outer s H vs Q E _ h => ?_)
  · obtain ⟨a, ws, rfl, h, _⟩ := h
    rw [List.length_cons, h, hps]
  · obtain ⟨a, ws, rfl, hl, hA, kk⟩ := h
    refine ⟨a, ws, rfl, hA, _, hrest A outer s H E, ?_⟩
    obtain ⟨q0, r, h1, h2, h3, h4⟩ := hr a ws hl
    rw [← h2]
    refine flds_all Y.ex (a := a) (by rfl) (fun q hq => ⟨hno _ (h4 q hq).1, (h4 q hq).2⟩) h1 hA (fun dx hdx hne => ?_)
    rw [h3]
    exact kk dx hdx hne
end
end Sim

/-! calls that may raise, at the caller's slots; try -/
namespace L2
open PySem PySem.Spec PyProof.Rows
section
variable {X : Cx} {CX : CXT} {k : Nat} {f C : Addr} {fd : FuncData} {ps : List Str} {sp : Sp} {E : St → XK} {x m : Str} {p pos apos : Pos} {e o : Expr} {es : List Expr} {ta : TE} {t : TA}
end
end L2
namespace Sim
open PySem PySem.Spec PyProof.Rows L2 Evl
section
variable {K : PySem.W.Frag} {σ : L2.St} {G H W G0 H0 : Hp} {ls : List Addr} {cs : Cs} {ta : TA} {to te : TE} {ι α β γ : Type} {A : AR ι} {R : Rep α} {S : Rep β} {T : Rep γ} {t u : TS} {D : Ends}
/-- a reading that may raise -/
def EX (K : PySem.W.Frag) (te : TE) (σ : L2.St) (G W : Hp) (R : Rep α) (m : Option (Xn ⊕ α)) (Wx : XK) : Prop :=
  ∀ r, m = some r → ∀ H, Ex G H → Ex W H → ∀ Q : VK, (∀ e, r = .inl e → ∀ d H2 G2, Up G H G2 H2 → Xat K G2 e d → Wx (.ref (He.ga K e.cls)) d H2) → (∀ x, r = .inr x → ∀ v H2 G2, Up G H G2 H2 → R.r G2 v x → Q v H2) → te σ H Q
theorem ex_call {f : ι → Option (Xn ⊕ γ)} {ta : TA} {m : Option ι} {Wx : L2.St → XK} (ha : EA ta σ G W A m) : EX K (tCallS (PX K A T f) Wx ta) σ G W T (m >>= f) (Wx σ) := fun z hz H e e' Q qx q => by
  obtain ⟨i, hi, hz⟩ := bindS hz
  refine ha i hi H e e' _ fun vs H1 G1 u1 r1 => ?_
  exact ⟨G1, i, z, u1.gh, r1, hz, fun x hx d H2 G2 u2 r2 => qx x hx d H2 G2 (u1.trans u2) r2, fun x hx v H2 G2 u2 r2 => q x hx v H2 G2 (u1.trans u2) r2⟩
/-- f(..), alone -/
theorem x_callX {tz : TS} {m : Option (Xn ⊕ α)} {r : Xn ⊕ α} {Wx : XK} (w : Wo G0 H0 ls G H cs) (h : EX K te σ G H R m Wx) (hm : m = some r) (kx : ∀ e, r = .inl e → ∀ d H2 G2, Wo G0 H0 ls G2 H2 cs → Ex G G2 → Xat K G2 e d → Wx (.ref (He.ga K e.cls)) d H2)
    (k : ∀ x, r = .inr x → ∀ H2 G2, Wo G0 H0 ls G2 H2 cs → Ex G G2 → tz D σ H2) : tSeq (tDrop te) tz D σ H :=
  h r hm H w.ex (Ex.refl _) (fun _ H1 => tz D σ H1) (fun e he d H2 G2 u x => kx e he d H2 G2 (w.up u) u.gg x) fun x hx v H2 G2 u _ => k x hx H2 G2 (w.up u) u.gg
end
end Sim

/-! try with several clauses, each with or without a name -/
namespace L2
open PySem PySem.Spec PyProof.Rows
section
variable {X : Cx} {pins : List (Addr × Obj)} {σ : L2.St} {H : Hp} {cls : Value} {d : Option Addr} {a : Addr} {B : Heap} {sI s : Shared}
end
section
variable {X : Cx} {body : List Stmt} {h₀ : ExceptHandler} {hds : List ExceptHandler} {l : List Cla} {pos : Pos} {tb : WX → TS} {Wout : WX}
theorem ps_tryA (hN : X.N.Nodup) (hs : X.stack = X.env :: X.outer) (hf : X.env.frame = some X.env.locals) (tk : Takes X Wout)
    (hb : ∀ (W : WX) (pn : List (Addr × Obj)) (xe : Value → Shared → Prop), Takes (X.tr pn xe) W → PassesOwn (model X.prog X.w) X.A X.env xe → PSs (X.tr pn xe) body (tb W))
    (hh : HdsA X (h₀ :: hds) l) : PS X (.Try body (h₀ :: hds) [] [] pos) (fun D σ H => tb (wManyA X.K Wout D l) D σ H) := by
  refine ⟨fun pins s σ H D I h => wpAny_Try_except ?_⟩
  have ok := I.ok
  refine wpAny_mono ((hb _ (X.pn ++ pins) (fun e s₁ => wpAny (model X.prog X.w) X.A (noteFrame e X.env) (fun _ s₂ => wpAny (model X.prog X.w) X.A (setFlight e none) (fun _ s₃ =>
    wpAny (model X.prog X.w) X.A (handleBy e X.env (h₀ :: hds)) (SP X pins D) X.xe s₃) X.xe s₂) X.xe s₁) (fun u s' xx => ?_) PassesOwn.looking).run [] s σ H D (I.toTry _) h) (fun f s1 hsp => ?_) (fun e s1 he => he)
  · obtain ⟨a, B, sI, pins', σ', H', cls, d, rfl, J, nb, up, sky, na, os, ag, w⟩ := xx
    have sky' : Sky B (X.env :: X.outer) a (Zc cls d) X.env.locals s'.heap := by rw [← hs]; exact sky
    refine Sky.land Zc.steady (by rw [ok.frames, hs]) hf sky' fun h3 fl3 up3 => ?_
    exact Aloft.go (s := { s' with heap := h3 }) ⟨J.ofTry ok, nb, up.trans up3, by rw [hs]; exact fl3, na, os, ag⟩ ok hN hs hf tk hh w
  · cases f with
    | ret u => obtain ⟨v, σ', H', J, r, q⟩ := hsp; exact ⟨v, σ', H', J.ofTry ok, r, q⟩
    | next => obtain ⟨σ', H', J, q⟩ := hsp; exact wpAny_execs_nil ⟨σ', H', J.ofTry ok, q⟩
    | brk => obtain ⟨σ', H', J, q⟩ := hsp; exact ⟨σ', H', J.ofTry ok, q⟩
    | cont => obtain ⟨σ', H', J, q⟩ := hsp; exact ⟨σ', H', J.ofTry ok, q⟩
end
end L2

/-! the hook with own exceptions -/
namespace Sim
open PySem PySem.Spec PyProof.Rows L2 Evl
/-- a static method m of the class C -/
structure StatOf (K : PySem.W.Frag) (C : Addr) (m : Str) (p g : Addr) : Prop where
  ga : PySem.W.specialIn K (.ref C) "__getattribute__" = some (some (.builtin "type.__getattribute__"))
  ty : PySem.W.typeIn K (.ref C) = some (.type "type")
  rd : PySem.W.readsIn K C (.type "type") = true
  at_ : PySem.W.findCls K (.ref C) (.type "type") m = some (.get (.builtin "staticmethod.__get__") (.ref p) .none (.ref C))
  rc : ∃ rest, PySem.W.recIn K p "staticmethod" = some (.ref g :: rest)
  hd : PySem.W.handedIn (.ref g) = true
theorem obsXG_eq {n : Nat} {fa : List He.Fa} {fn : List He.DefD} {ex : List (PySem.W.Frag → Bool)} {xs : List XcD} {gs : List GeD} {file : Str} {g : Addr → Option Obj} {s : Shared} (h : ∀ a, g a = s.heap.get? a) : obsXG n fa fn ex xs gs file g = (hookX n fa fn ex xs gs file).obs s := by
  have e : g = s.heap.get? := funext h
  rw [e] <;> rfl
section
variable {fa : List He.Fa} {fn : List He.DefD} {es : List (PySem.W.Frag → Bool)} {xs : List XcD} {gs : List GeD} {file : Str} {K : PySem.W.Frag} {mg : Str → Option Value}
theorem TxX.mk' {h : Heap} (KX : K.In h) (G : h.Ns mainGlobals mg) (c : SaysX fa fn es xs gs file K) : TxX fa fn es xs gs file K mg := by
  obtain ⟨h1, h2⟩ := He.ba c.x
  obtain ⟨h2, h3⟩ := He.ba h2
  exact ⟨⟨⟨⟨h, KX, G⟩, c.d⟩, h1⟩, h2, c.y, h3, c.g⟩
theorem TxX.xc (T : TxX fa fn es xs gs file K mg) (i : Nat) {d : XcD} (h : xs[i]? = some d) : fnY K d.cls = d.val ∧ d.ok K file = true := by
  have e2 : (xs.map fun d => fnY K d.cls)[i]? = (xs.map XcD.val)[i]? := by rw [T.xv]
  rw [List.getElem?_map, List.getElem?_map, h] at e2
  exact ⟨Option.some.inj e2, List.all_eq_true.mp T.xo d (List.mem_of_getElem? h)⟩
end
theorem noB_ok {C f : Str} {K : PySem.W.Frag} (h : noB C f K = true) : PySem.W.findIn K (.ref (He.ga K C)) f = some none := of_decide_eq_true h
theorem exmB_ok {C D : Str} {b : Bool} {K : PySem.W.Frag} (h : exmB C D b K = true) : PySem.W.exmOne K (.ref (He.ga K C)) (.ref (He.ga K D)) = some b := of_decide_eq_true h
end Sim

/-! isinstance of a caught exception that has fields; properties -/
namespace PySem.W
open PySem PySem.Calls PyProof.Rows PySem.Spec
section
variable {prog : Program} {w : World} {A : Around} {E : Value → Shared → Prop} {s : Shared} {K : Frag} {x D : Addr} {ox : Obj} {od : Obj}
theorem exc_class {Q : Option Value → Shared → Prop} (C : L2.ExcC K D) (X : K.In s.heap) (I : InstAt s.heap x ox D (some od)) (h : Q (some (.ref D)) { s with toks := s.toks + 1 }) : wpAny (model prog w) A (getAttr? (.ref x) "__class__") Q E s := by
  have hf : findObj K D (some od) "__class__" = some (.bind (.builtin "getset_descriptor.__get__") (.builtin "object.__class__")) := findObj_data (by obtain ⟨cd, hc, _⟩ := any_some C.hd; rw [hc]; rfl) C.ha C.hn C.ht
  obtain ⟨hp, g, d, t, os⟩ := s
  have ty := I.type (M := model prog w)
  have ne : (Value.builtin "BaseException.__getattribute__" == Value.builtin "object.__getattribute__") = false := by decide +kernel
  unfold getAttr? getAttrBy? getAttrBy
  refine wpAny_bind (wpAny_mkText (wpAny_bind (wpAny_attempt (wpAny_holding (wpAny_bind (ty.at (wpAny_bind ((looks_findIn (M := model prog w) X C.hg).at ?_))))))))
  refine KFB.if_not (by rw [ne]; rfl) ?_
  unfold getAttrByItsOwn hookBefore callGetattribute boundAndCalled
  refine wpAny_bind (KFB.if_so rfl ((looks_findIn (M := model prog w) X C.hk).at ?_))
  refine wpAny_bind (wpAny_attempt (wpAny_holding (KFB.if_not rfl ?_)))
  rw [PySem.F.excAttr_ValueError.ga.bind (.ref x)]
  refine wpAny_bind (wpAny_pure ?_)
  show wpAny _ _ (call (.builtin "BaseException.__getattribute__") [.ref x, .str "__class__" t]) _ _ _
  refine wpAny_call (codeAny_call_builtin PySem.F.excAttr_ValueError.ga.plain PySem.F.entry_bexc_ga ?_)
  refine @check_slot (model prog w) _ _ ⟨hp, g, d, t + 1, os⟩ "BaseException.__getattribute__" "BaseException" "__getattribute__" (.ref x) [.str "__class__" t] [] _ (by decide +kernel) (by decide +kernel) (ty.andThen (looks_subIn X C.hs)) (PySem.F.args_bexc_ga (.ref x) (.str "__class__" t)) ?_
  unfold Builtin.«object.__getattribute__»
  refine wpAny_bind (wpAny_of_eq (a := ((Value.ref x : Value), [Value.str "__class__" t])) (by first | rfl | (simp only [slotArgs]; rfl)) ?_)
  refine wpAny_bind (wpAny_pure (wpAny_bind (ty.at (wpAny_bind ((looks_find (M := model prog w) X I hf).at ?_)))))
  refine wpAny_bind (wpAny_holding (wpAny_call (class_get (s := ⟨hp, g, d, t + 1, os⟩) (ox := ox) (od := some od) X I C.hm ?_)))
  refine wpAny_pure ?_
  show wpAny _ _ (handedOut (.ref D)) _ _ _
  rw [handedOut_of (v := .ref D) rfl]
  first
    | exact wpAny_pure (wpAny_pure h)
    | exact wpAny_pure h
    | exact wpAny_pure (wpAny_bind (wpAny_pure (wpAny_pure h)))
end
end PySem.W
namespace L2
open PySem PySem.Spec PyProof.Rows
/-- isinstance(e, c), e the caught exception, its dict at dd -/
def rIsX (K : PySem.W.Frag) (D a dd : Addr) : List V → Hp → VK → Prop := fun xs H Q => ∃ (c : V) (cv : Value) (b : Bool) (fs : List (Str × V)), xs = [.ref a, c] ∧ (∀ u, RelV c u → u = cv) ∧ PySem.W.kitOne K (.ref D) cv = some b ∧ H dd = some (.xd fs) ∧ Q (.bl b) H
theorem call_isX {X : Cx} {a D dd : Addr} {oe : Obj} {pn : List (Addr × Obj)} (C : ExcC X.K D) (hz : Zc (.ref D) (some dd) oe) (hf : ∃ vs, oe.data = .fields vs) : CallR (X.suite a ((a, oe) :: pn)) (.builtin "isinstance") (rIsX X.K D a dd) := by
  intro pins s σ H xs us Q I r h
  obtain ⟨c, cv, b, fs, rfl, hcv, e, hd, q⟩ := h
  cases r with
  | cons rx rr =>
    cases rr with
    | cons rt rr =>
      cases rr
      cases rx
      have ec := hcv _ rt
      subst ec
      obtain ⟨hget, _⟩ := I.pin (a, oe) (List.mem_append.mpr (.inl List.mem_cons_self))
      obtain ⟨vs, hv⟩ := hf
      obtain ⟨mA, hns, _⟩ : ObjOk X.prog X.w H s.heap dd (.xd fs) := I.hok dd _ hd
      obtain ⟨od, ho, _⟩ := lookIn_ns hns
      have J : PySem.W.InstAt s.heap a oe D (some od) := ⟨hget, hz.1, by unfold PySem.W.notCls; rw [hv] <;> rfl, by rw [hz.2]; exact ho⟩
      have Z : PySem.W.KitX X.K (.ref a) (.ref D) (fun h => PySem.W.InstAt h a oe D (some od)) := {
        ty := fun _ _ _ I => I.type
        it := (fun _ _ Y _ => by
          obtain ⟨cd, hc, _⟩ := PySem.W.any_some C.hd
          unfold PySem.W.clsIn at hc
          split at hc
          · rename_i ho
            intro A' Q' E' s' k q
            unfold isType loadHead
            exact wpAny_bind (wpAny_loadPart (k _ _ (Y _ _ ho)) (wpAny_pure q))
          · cases hc)
        ne := (PySem.W.handS_kitx_exc (x := a) (ox := oe) C.hg C.hk C.hs C.hd C.ha C.hn C.ht C.hm).ne
        ca := fun Y I k => PySem.W.exc_class C Y I k }
      exact PySem.W.kia_one Z I.kIn J e (fun z => nomatch z) fun tk => ⟨.bl b, H, I.kept (t' := tk) fun _ _ z => z, rfl, q⟩
end L2
namespace Sim
open PySem PySem.Spec PyProof.Rows L2 Evl
section
variable {K : PySem.W.Frag} {σ : L2.St} {G H W : Hp} {to : TE} {ta : TA} {α γ : Type} {T : Rep γ}
end
end Sim

namespace Sim
open PySem PySem.Spec PyProof.Rows L2 Evl
theorem look_app {α : Type} {f : Str} {x : α} : ∀ {l r : List (Str × α)}, (∀ y, (f, y) ∉ l) → (l ++ [(f, x)]).lookup f = some x
  | [], _, _ => by simp [List.lookup]
  | (g, y) :: l, r, h => by
    have hg : (f == g) = false := by
      rw [beq_eq_false_iff_ne]
      rintro rfl
      exact h y (List.mem_cons_self ..)
    rw [List.cons_append, List.lookup_cons, hg]
    exact look_app (r := r) fun z hz => h z (List.mem_cons_of_mem _ hz)
theorem look_app' {α : Type} {f g : Str} {x : α} (hne : f ≠ g) : ∀ {l : List (Str × α)} {y : α}, l.lookup f = some y → (l ++ [(g, x)]).lookup f = some y
  | [], _, h => by cases h
  | (k, z) :: l, y, h => by
    rw [List.cons_append, List.lookup_cons]
    rw [List.lookup_cons] at h
    cases e : (f == k) with
    | true => rw [e] at h; exact h
    | false => rw [e] at h; exact look_app' hne h
/-- the fields of a raised exception, from what its arguments tell -/
theorem look_rev {K : PySem.W.Frag} {G : Hp} : ∀ {names : List Str} {vs : List V} {xs : List Xv} {f : Str} {x : Xv}, names.Nodup → Paired ((rX K).r G) vs xs → (names.zip xs).lookup f = some x → ∃ v, (names.zip vs).reverse.lookup f = some v ∧ (rX K).r G v x
  | [], vs, xs, f, x, _, _, h => by cases h
  | n :: names, [], xs, f, x, _, r, h => by cases r; cases h
  | n :: names, v :: vs, [], f, x, _, r, h => by cases r
  | n :: names, v :: vs, y :: xs, f, x, nd, r, h => by
    cases r with
    | cons r1 r2 =>
    obtain ⟨hn, nd⟩ := List.nodup_cons.mp nd
    rw [List.zip_cons_cons, List.lookup_cons] at h
    rw [List.zip_cons_cons, List.reverse_cons]
    cases e : (f == n) with
    | true =>
      rw [e] at h
      cases h
      have : f = n := eq_of_beq e
      subst this
      exact ⟨v, look_app (r := []) (fun z hz => hn (List.of_mem_zip (List.mem_reverse.mp hz)).1), r1⟩
    | false =>
      rw [e] at h
      obtain ⟨u, h1, h2⟩ := look_rev nd r2 h
      exact ⟨u, look_app' (beq_eq_false_iff_ne.mp e) h1, h2⟩
theorem Xat_mk {K : PySem.W.Frag} {G : Hp} {d : Addr} {names : List Str} {vs : List V} {xs : List Xv} {cls : Str} (nd : names.Nodup) (hd : G d = some (.xd (names.zip vs).reverse)) (r : Paired ((rX K).r G) vs xs) : Xat K G ⟨cls, names.zip xs⟩ (some d) :=
  ⟨_, hd, fun f x h => look_rev nd r h⟩
end Sim

/-! a class made whose __init__ may raise; isinstance of whatever was caught; tables of exception classes -/
namespace L2
open PySem PySem.Spec PyProof.Rows
section
variable {X : Cx} {CX : CXT} {k : Nat} {f C : Addr} {fd : FuncData} {ps : List Str} {sp : Sp} {E : St → XK} {x m : Str} {p pos apos : Pos} {e o : Expr} {es : List Expr} {ta : TE} {t : TA}
/-- nothing is raised here -/
theorem takes_no : Takes X (fun _ _ _ _ => False) := fun _ _ ⟨_, _, _, _, _, _, _, _, _, _, _, _, _, _, _, _, w⟩ => w.elim
end
/-- isinstance(e, c), e the caught exception, whatever its class -/
def rIsZ (K : PySem.W.Frag) (cls : Value) (d : Option Addr) (a : Addr) : List V → Hp → VK → Prop := fun xs H Q => ∃ (D : Addr) (c : V) (cv : Value) (b : Bool), cls = .ref D ∧ ExcC K D ∧ xs = [.ref a, c] ∧ (∀ u, RelV c u → u = cv) ∧ PySem.W.kitOne K (.ref D) cv = some b ∧ (∀ dd, d = some dd → ∃ fs : List (Str × V), H dd = some (.xd fs)) ∧ Q (.bl b) H
theorem call_isZ {X : Cx} {a : Addr} {cls : Value} {d : Option Addr} {oe : Obj} {pn : List (Addr × Obj)} (hz : Zc cls d oe) (hf : ∃ vs, oe.data = .fields vs) : CallR (X.suite a ((a, oe) :: pn)) (.builtin "isinstance") (rIsZ X.K cls d a) := by
  intro pins s σ H xs us Q I r h
  obtain ⟨D, c, cv, b, rfl, hC, h1, h2, h3, h4, h5⟩ := h
  cases d with
  | none => exact call_isE hC hz hf pins s σ H xs us Q I r ⟨c, cv, b, h1, h2, h3, h5⟩
  | some dd =>
    obtain ⟨fs, h6⟩ := h4 dd rfl
    exact call_isX hC hz hf pins s σ H xs us Q I r ⟨c, cv, b, fs, h1, h2, h3, h6, h5⟩
/-- e.f, e the caught exception, whatever its class -/
def tXz (K : PySem.W.Frag) (a : Addr) (cls : Value) (d : Option Addr) (f : Str) (te : TE) : TE := fun σ H Q => te σ H fun x H1 => x = .ref a ∧ ∃ (C dd : Addr) (fs : List (Str × V)) (v : V), cls = .ref C ∧ XfC K C ∧ PySem.W.findIn K (.ref C) f = some none ∧ d = some dd ∧ H1 dd = some (.xd fs) ∧ fs.lookup f = some v ∧ Q v H1
theorem pe_xz {X : Cx} {a : Addr} {oe : Obj} {cls : Value} {d : Option Addr} {pn : List (Addr × Obj)} {e : Expr} {te : TE} {pos : Pos} {n : Str}
    (hz : Zc cls d oe) (hf : ∃ vs, oe.data = .fields vs) (he : PE (X.suite a ((a, oe) :: pn)) e te) (hb : attributeBase e n X.env (eval e X.env) = eval e X.env := by rfl) :
    PE (X.suite a ((a, oe) :: pn)) (.Attribute e n pos) (tXz X.K a cls d n te) := by
  refine ⟨fun pins s σ H Q I h => ?_⟩
  refine attr_of hb (thn (he.run pins s σ H _ I h) fun u s1 hh => ?_)
  obtain ⟨x, H1, I1, rx, ex, C, dd, fs, v, ec, T, hno, ed, ea, l, q⟩ := hh
  subst ex
  obtain rfl : u = Value.ref a := rx
  subst ec
  subst ed
  obtain ⟨ha, _⟩ := I1.pin (a, oe) (List.mem_append_left _ List.mem_cons_self)
  obtain ⟨vs, hd⟩ := hf
  have hx : ObjOk X.prog X.w H1 s1.heap dd (.xd fs) := I1.hok dd _ ea
  obtain ⟨mA, hns, hr⟩ := hx
  obtain ⟨od, ho, hl⟩ := lookIn_ns hns
  obtain ⟨u, hu, ru⟩ := RelO.some_of (v := v) (o := mA n) (by rw [← l]; exact hr n)
  have J : PySem.W.InstAt s1.heap a oe C (some od) := ⟨ha, hz.1, by unfold PySem.W.notCls; rw [hd] <;> rfl, by rw [hz.2]; exact ho⟩
  exact HandSPX.exc_get I1.kIn J T.ga T.gg T.exC (PySem.W.findObj_own T.hdC hno rfl (by rw [hl, hu])) (handed_of ru) ⟨v, H1, I1.tok _, ru, q⟩
end L2
namespace Sim
open PySem PySem.Spec PyProof.Rows L2 Evl
/-! tables: what the top's end says of the exception classes cs -/
theorem excCB_ok {K : PySem.W.Frag} {D : Addr} (h : excCB K D = true) : ExcC K D := by
  obtain ⟨h1, h⟩ := He.ba h
  obtain ⟨h2, h⟩ := He.ba h
  obtain ⟨h3, h⟩ := He.ba h
  obtain ⟨h4, h⟩ := He.ba h
  obtain ⟨h5, h⟩ := He.ba h
  obtain ⟨h6, h⟩ := He.ba h
  obtain ⟨h7, h8⟩ := He.ba h
  exact ⟨of_decide_eq_true h1, of_decide_eq_true h2, of_decide_eq_true h3, h4, of_decide_eq_true h5, of_decide_eq_true h6, of_decide_eq_true h7, of_decide_eq_true h8⟩
section
variable {K : PySem.W.Frag} {cs fs : List Str} {C D f : Str} {b : Bool}
theorem xs_ok (h : xsB cs K = true) (hC : cs.contains C = true) : ExcC K (He.ga K C) ∧ XfC K (He.ga K C) := by
  have := List.all_eq_true.mp h C (List.contains_iff_mem.mp hC)
  obtain ⟨h1, h2⟩ := He.ba this
  exact ⟨excCB_ok h1, xfB_ok h2⟩
theorem xn_ok (h : xnB cs fs K = true) (hC : cs.contains C = true) (hf : fs.contains f = true) : PySem.W.findIn K (.ref (He.ga K C)) f = some none :=
  noB_ok (List.all_eq_true.mp (List.all_eq_true.mp h C (List.contains_iff_mem.mp hC)) f (List.contains_iff_mem.mp hf))
theorem xa_ok (h : xaB cs D b K = true) (hC : cs.contains C = true) : PySem.W.exmOne K (.ref (He.ga K C)) (.ref (He.ga K D)) = some b := exmB_ok (List.all_eq_true.mp h C (List.contains_iff_mem.mp hC))
theorem xk_ok {ds : List Str} (h : xkB cs D ds K = true) (hC : cs.contains C = true) : PySem.W.kitOne K (.ref (He.ga K C)) (.ref (He.ga K D)) = some (ds.contains C) := of_decide_eq_true (List.all_eq_true.mp h C (List.contains_iff_mem.mp hC))
theorem xkT_ok {D : String} (h : xkTB cs D b K = true) (hC : cs.contains C = true) : PySem.W.kitOne K (.ref (He.ga K C)) (.type D) = some b := of_decide_eq_true (List.all_eq_true.mp h C (List.contains_iff_mem.mp hC))
end
theorem sumL {α β γ : Type} {f : α → Option γ} {g : β → Option γ} {e : α} {r : γ} (h : Sum.elim f g (Sum.inl e) = some r) : f e = some r := h
theorem sumR {α β γ : Type} {f : α → Option γ} {g : β → Option γ} {e : β} {r : γ} (h : Sum.elim f g (Sum.inr e) = some r) : g e = some r := h
theorem bifO {α : Type} {c : Bool} {a b : Option α} {r : α} (h : (bif c then a else b) = some r) : (c = true ∧ a = some r) ∨ (c = false ∧ b = some r) := by
  cases c with
  | true => exact Or.inl ⟨rfl, h⟩
  | false => exact Or.inr ⟨rfl, h⟩
section
variable {K : PySem.W.Frag} {σ : L2.St} {G H W G0 H0 G2 H2 : Hp} {ls : List Addr} {cs : Cs} {ta tb : TA} {to te tu : TE} {ι α β γ : Type} {A : AR ι} {R : Rep α} {S : Rep β} {T : Rep γ} {D : Ends} {l C : Addr} {ns : List Str} {fl : α → List Pd}
theorem Xat.upE {ls : List Addr} {e : Xn} {d : Option Addr} (h : Xat K G e d) (x : Ex G G2) : Xat K G2 e d := h.mono x
/-- isinstance(e, c) of the caught exception -/
theorem e_isZ {a : Addr} {d : Option Addr} {e : Xn} {i : Nat} {c : V} {cv : Value} {b : Bool} (hs : σ[i]? = some (some (.ref a))) (hx : Xat K G e d) (hC : ExcC K (He.ga K e.cls)) (hcv : ∀ u, RelV c u → u = cv) (hk : PySem.W.kitOne K (.ref (He.ga K e.cls)) cv = some b) :
    E (tCB (rIsZ K (.ref (He.ga K e.cls)) d a) (tCons (tVar i) (tCons (tC c) tNil))) σ G W rB (some b) := fun z hz H ee e' Q q => by
  cases hz
  exact ⟨.ref a, hs, _, c, cv, _, rfl, hC, rfl, hcv, hk, fun dd hd => by
    subst hd
    obtain ⟨fs, h1, _⟩ := hx
    exact ⟨fs, ee dd _ h1⟩, q _ H G (Up.refl ee) rfl⟩
def xI (e : Xn) (f : Str) : Option Int := e.fs.lookup f >>= fun x => match x with | .int y => some y | _ => none
def xS (e : Xn) (f : Str) : Option Str := e.fs.lookup f >>= fun x => match x with | .str y => some y | _ => none
/-- e.f of the caught exception -/
theorem e_xz {a : Addr} {d : Option Addr} {e : Xn} {f : Str} {i : Nat} (hs : σ[i]? = some (some (.ref a))) (hx : Xat K G e d) (hC : XfC K (He.ga K e.cls)) (hno : PySem.W.findIn K (.ref (He.ga K e.cls)) f = some none) : E (tXz K a (.ref (He.ga K e.cls)) d f (tVar i)) σ G W rI (xI e f) := fun z hz H ee e' Q q => by
  obtain ⟨x, hx1, hz⟩ := bindS hz
  cases x with
  | str _ => cases hz
  | txs _ => cases hz
  | bl _ => cases hz
  | recd _ _ _ => cases hz
  | adr _ => cases hz
  | int y =>
    cases hz
    cases d with
    | none => rw [show e.fs = [] from hx] at hx1; cases hx1
    | some d =>
    obtain ⟨fs, h1, h2⟩ := hx
    obtain ⟨v, h3, h4⟩ := h2 f _ hx1
    exact ⟨.ref a, hs, rfl, _, d, fs, v, rfl, hC, hno, rfl, ee d _ h1, h3, q v H G (Up.refl ee) h4⟩
theorem e_xzS {a : Addr} {d : Option Addr} {e : Xn} {f : Str} {i : Nat} (hs : σ[i]? = some (some (.ref a))) (hx : Xat K G e d) (hC : XfC K (He.ga K e.cls)) (hno : PySem.W.findIn K (.ref (He.ga K e.cls)) f = some none) : E (tXz K a (.ref (He.ga K e.cls)) d f (tVar i)) σ G W rS (xS e f) := fun z hz H ee e' Q q => by
  obtain ⟨x, hx1, hz⟩ := bindS hz
  cases x with
  | int _ => cases hz
  | txs _ => cases hz
  | bl _ => cases hz
  | recd _ _ _ => cases hz
  | adr _ => cases hz
  | str y =>
    cases hz
    cases d with
    | none => rw [show e.fs = [] from hx] at hx1; cases hx1
    | some d =>
    obtain ⟨fs, h1, h2⟩ := hx
    obtain ⟨v, h3, h4⟩ := h2 f _ hx1
    exact ⟨.ref a, hs, rfl, _, d, fs, v, rfl, hC, hno, rfl, ee d _ h1, h3, q v H G (Up.refl ee) h4⟩
def xLS (e : Xn) (f : Str) : Option (List Str) := e.fs.lookup f >>= fun x => match x with | .txs y => some y | _ => none
def xA (e : Xn) (f : Str) : Option Addr := e.fs.lookup f >>= fun x => match x with | .adr y => some y | _ => none
theorem e_xzLS {a : Addr} {d : Option Addr} {e : Xn} {f : Str} {i : Nat} (hs : σ[i]? = some (some (.ref a))) (hx : Xat K G e d) (hC : XfC K (He.ga K e.cls)) (hno : PySem.W.findIn K (.ref (He.ga K e.cls)) f = some none) : E (tXz K a (.ref (He.ga K e.cls)) d f (tVar i)) σ G W (rT rS) (xLS e f) := fun z hz H ee e' Q q => by
  obtain ⟨x, hx1, hz⟩ := bindS hz
  cases x with
  | int _ => cases hz
  | str _ => cases hz
  | recd _ _ _ => cases hz
  | adr _ => cases hz
  | bl _ => cases hz
  | txs y =>
    cases hz
    cases d with
    | none => rw [show e.fs = [] from hx] at hx1; cases hx1
    | some d =>
    obtain ⟨fs, h1, h2⟩ := hx
    obtain ⟨v, h3, h4⟩ := h2 f _ hx1
    exact ⟨.ref a, hs, rfl, _, d, fs, v, rfl, hC, hno, rfl, ee d _ h1, h3, q v H G (Up.refl ee) h4⟩
theorem e_xzA {a : Addr} {d : Option Addr} {e : Xn} {f : Str} {i : Nat} (hs : σ[i]? = some (some (.ref a))) (hx : Xat K G e d) (hC : XfC K (He.ga K e.cls)) (hno : PySem.W.findIn K (.ref (He.ga K e.cls)) f = some none) : E (tXz K a (.ref (He.ga K e.cls)) d f (tVar i)) σ G W rA (xA e f) := fun z hz H ee e' Q q => by
  obtain ⟨x, hx1, hz⟩ := bindS hz
  cases x with
  | int _ => cases hz
  | txs _ => cases hz
  | bl _ => cases hz
  | recd _ _ _ => cases hz
  | str _ => cases hz
  | adr y =>
    cases hz
    cases d with
    | none => rw [show e.fs = [] from hx] at hx1; cases hx1
    | some d =>
    obtain ⟨fs, h1, h2⟩ := hx
    obtain ⟨v, h3, h4⟩ := h2 f _ hx1
    exact ⟨.ref a, hs, rfl, _, d, fs, v, rfl, hC, hno, rfl, ee d _ h1, h3, q v H G (Up.refl ee) h4⟩
end
end Sim

/-! properties; == of further data; list + list; index; all, any -/
namespace Sim
open PySem PySem.Spec PyProof.Rows L2 Evl
section
variable {K : PySem.W.Frag} {σ : L2.St} {G H W G' W' : Hp} {ta : TA} {te tu : TE} {ι α β γ : Type} {A : AR ι} {R : Rep α} {S : Rep β} {T : Rep γ}
theorem dtS : Dt rS PyData.str 0 := ⟨fun h => by rw [show _ = V.str _ from h]; exact .str _, fun _ => rfl, fun _ => Nat.le_refl _, fun x y => by simp [PyData.eqv]⟩
/-- never equal to None -/
class NoN (d : α → PyData) : Prop where
  ne : ∀ x, PyData.eqv .none (d x) = false ∧ PyData.eqv (d x) .none = false
instance : NoN PyData.int := ⟨fun x => ⟨by simp [PyData.eqv], by simp [PyData.eqv]⟩⟩
instance : NoN PyData.bool := ⟨fun x => ⟨by simp [PyData.eqv], by simp [PyData.eqv]⟩⟩
instance : NoN PyData.str := ⟨fun x => ⟨by simp [PyData.eqv], by simp [PyData.eqv]⟩⟩
instance {d : α → PyData} : NoN (fun xs : List α => PyData.list (xs.map d)) := ⟨fun x => ⟨by simp [PyData.eqv], by simp [PyData.eqv]⟩⟩
instance {d : α → PyData} : NoN (fun xs : List α => PyData.tuple (xs.map d)) := ⟨fun x => ⟨by simp [PyData.eqv], by simp [PyData.eqv]⟩⟩
instance {d : α → PyData} {f : β → PyData} : NoN (fun p : α × β => PyData.tuple [d p.1, f p.2]) := ⟨fun x => ⟨by simp [PyData.eqv], by simp [PyData.eqv]⟩⟩
/-- an operator that makes a new list -/
def RRL (r : R2) (R : Rep α) (S : Rep β) (T : Rep γ) (f : α → β → Option (List γ)) : Prop :=
  ∀ v w x y z H G, R.r G v x → S.r G w y → f x y = some z → Ex G H → ∀ Q : VK, (∀ p H2 G2, H p = none → Up G H G2 H2 → Wd G2 H2 [(p, cL T z)] → Q (.ref p) H2) → r v w H Q
theorem el_op {r : R2} {f : α → β → Option (List γ)} {ma : Option α} {mb : Option β} (hr : RRL r R S T f) (ha : E te σ G W R ma) (hb : E tu σ G W S mb) :
    EL (tOp r te tu) σ G W T (ma >>= fun x => mb >>= fun y => f x y) := fun z hz H e e' Q q => by
  obtain ⟨x, hx, hz⟩ := bindS hz
  obtain ⟨y, hy, hz⟩ := bindS hz
  refine ha x hx H e e' _ fun v H1 G1 u1 r1 => ?_
  refine (hb.mono u1.gg (e'.trans u1.hh)) y hy H1 u1.gh (Ex.refl _) _ fun w H2 G2 u2 r2 => ?_
  exact hr v w x y z H2 G2 (R.mono u2.gg r1) r2 hz u2.gh Q fun p H3 G3 hp u3 w3 => q p H3 G3 (fresh_back (u1.hh.trans u2.hh) hp) ((u1.trans u2).trans u3) w3
def catM (xs ys : List α) : Option (List α) := bif decide (xs.length + ys.length < 100000) then some (xs ++ ys) else none
theorem rrl_cat : RRL rCat (rL R) (rL R) R (fun xs ys => catM xs ys) := fun v w xs ys z H G hv hw hz e Q q => by
  obtain ⟨a, vs, rfl, h2, h3⟩ := hv
  obtain ⟨b, ws, rfl, k2, k3⟩ := hw
  have hz : (bif decide (xs.length + ys.length < 100000) then some (xs ++ ys) else none) = some z := hz
  cases hl : decide (xs.length + ys.length < 100000) with
  | false => rw [hl] at hz; cases hz
  | true =>
    rw [hl] at hz
    cases hz
    exact ⟨a, b, vs, ws, rfl, rfl, e a _ h2, e b _ k2, by rw [h3.length, k3.length]; exact sz_of (Nat.le_of_lt (of_decide_eq_true hl)), fun p hp => q p _ G hp (up_new e hp) (wd_new e hp (pr_app h3 k3))⟩
end
end Sim

/-! operators of own classes: ==, len, in, binary and unary ones -/
namespace L2
open PySem PySem.Spec PyProof.Rows
section
variable {X : Cx} {CX : CXT} {k : Nat} {f C : Addr} {fd : FuncData} {ps : List Str} {sp : Sp} {pins : List (Addr × Obj)} {σ : St} {H : Hp} {s : Shared} {ta tb : TE}
/-- what stands right of an own comparison: no instance of a subclass -/
def NFst (K : PySem.W.Frag) (C : Addr) (H : Hp) (y : V) : Prop := (∃ b dy gs, y = .ref b ∧ H b = some (.ins C dy gs)) ∨ ∃ t, TyX K H y t ∧ PySem.W.subIn K t (.ref C) = some false
theorem NFst.looks {y : V} {u : Value} (h : NFst X.K C H y) (I : Inv X pins σ H s) (ry : RelV y u) : ∃ tb, PySem.W.Looks (model X.prog X.w) s.heap (typeOf u) tb ∧ PySem.W.notFirst X.K C tb = true := by
  rcases h with ⟨b, dy, gs, rfl, hb⟩ | ⟨t, ty, hs⟩
  · cases ry
    obtain ⟨mB, J', _⟩ := ins_get I.hok hb
    obtain ⟨od', J', _⟩ := J'.look
    exact ⟨.ref C, J'.type, by simp [PySem.W.notFirst]⟩
  · obtain ⟨P, Z, hp, _⟩ := kit_of I ry ty
    exact ⟨t, Z.ty _ _ I.kIn hp, by simp [PySem.W.notFirst, hs]⟩
end
end L2

/-! operators of own classes: what they read as -/
namespace Sim
open PySem PySem.Spec PyProof.Rows L2 Evl
section
variable {K : PySem.W.Frag} {σ : L2.St} {G H W : Hp} {ta tb te : TE} {tA : TA} {α β γ ι : Type} {R : Rep α} {S : Rep β} {T : Rep γ} {A : AR ι} {C : Addr} {ns : List Str} {fl : α → List Pd}
end
end Sim

/-! what is walked, told in general; comprehensions with two clauses -/
namespace Sim
open PySem L2 Evl
section
variable {K : PySem.W.Frag} {σ : L2.St} {G H W G' W' : Hp} {te tl : TE} {tt tt1 : TT} {α β γ δ : Type} {R : Rep α} {S : Rep β} {T : Rep γ} {wi wi1 : TI} {g g1 : TG}
/-! ### [e2 for x in xs if f1 for y in g2 x if p2] -/
section
variable {G0 H0 : Hp} {D : Addr} {acc : List V} {ys zs : List γ}
theorem Acc.start (e : Ex G0 H0) (hD : H0 D = none) : Acc G0 H0 T D G0 (upd H0 D (.lst [])) [] [] := ⟨hD, Up.same e (Ex.new hD), fresh_back e hD, upd_same, .nil⟩
theorem Acc.fin (A : Acc G0 H0 T D G H acc ys) : ∃ G, H0 D = none ∧ Up G0 H0 G H ∧ Wd G H [(D, cL T ys)] := by
  refine ⟨G, A.n, A.u, A.u.gh, fun c hc => ?_, List.nodup_cons.mpr ⟨List.not_mem_nil, List.nodup_nil⟩⟩
  cases List.mem_singleton.mp hc
  exact ⟨A.gd, _, A.hd, acc, rfl, A.pr⟩
end
/-! ### is True, is False; and where the first operand is known -/
end
section
variable {K : PySem.W.Frag} {σ : L2.St} {G H W : Hp} {te ta : TE} {α : Type}
end
end Sim

/-! static methods, class constants read off the class -/
namespace L2
open PySem PySem.Spec PyProof.Rows
section
variable {X : Cx} {CX : CXT} {k : Nat} {f C p : Addr} {fd : FuncData} {ps : List Str} {sp : Sp} {E : St → XK} {x m : Str} {pos apos : Pos} {e o : Expr} {es : List Expr} {ta : TE} {t : TA}
end
end L2
namespace Sim
open PySem PySem.Spec PyProof.Rows L2 Evl
section
variable {K : PySem.W.Frag} {σ : L2.St} {G H W : Hp} {ta : TA} {ι γ : Type} {A : AR ι} {T : Rep γ} {C : Addr}
end
end Sim

/-! data of mixed kinds; a pair unpacked; one-clause comprehensions over anything -/
namespace Sim
open PySem L2 Evl
section
variable {K : PySem.W.Frag} {σ : L2.St} {G H W G0 H0 : Hp} {ls : List Addr} {cs : Cs} {te : TE} {α β γ : Type} {R : Rep α} {S : Rep β} {T : Rep γ} {D : Ends} {tz : TS}
end
section
variable {K : PySem.W.Frag} {σ : L2.St} {G H W : Hp} {te : TE} {tt : TT} {α γ : Type} {R : Rep α} {T : Rep γ} {wi : TI} {g : TG}
end
end Sim

/-! dicts -/
namespace Sim
open PySem L2 Evl
section
variable {K : PySem.W.Frag} {σ : L2.St} {G H W : Hp} {κ α β γ : Type} {kf : κ → Key} {R : Rep α}
end
end Sim

set_option maxHeartbeats 2000000
/-! own iterables: __iter__ gives iter(a list of theirs) -/
namespace L2
open PySem PySem.Spec PyProof.Rows ItX
/-- a def whose promise may speak of how many objects there are when it is called -/
structure FnOkS (P : Program) (w : World) (K : PySem.W.Frag) (mg : Str → Option Value) (base : Heap) (k : Nat) (f : Addr) (fd : FuncData) (ps : List Str) (sp : Nat → Sp) : Prop where
  len : ∀ n vs H Q E, sp n vs H Q E → vs.length = ps.length
  run : ∀ (A : Around) (outer : List Env) (s : Shared) (H : Hp) (args : Args) (us : List Value) (vs : List V) (Q : VK) (E : XK), Room k A → Env0 P w K mg base A outer s H → BindsTo s fd args (ps.zip us) → Vals vs us → sp s.heap.objs.size vs H Q E →
    codeAny (model P w) A (.call (.ref f) args) (CR CX0 outer P w H s Q E) s
section
variable {X : Cx} {k j : Nat} {fi C : Addr} {fd : FuncData} {ps : List Str} {pins : List (Addr × Obj)} {σ : St} {H : Hp} {s : Shared} {te : TE} {f : Str}
/-! ### list(o) -/
variable {fl : Addr} {fdl : FuncData} {psl : List Str} {spl : Sp}
end
end L2

namespace Sim
open PySem L2 Evl
section
variable {K : PySem.W.Frag} {σ : L2.St} {G H W : Hp} {te : TE} {α β γ : Type} {R : Rep β} {C : Addr} {ns : List Str} {fl : α → List Pd}
end
end Sim
namespace Sim
open PySem L2
end Sim

set_option maxHeartbeats 2000000
/-! a class with slots -/
namespace L2
open PySem PySem.Spec PyProof.Rows SlX
section
variable {X : Cx} {CX : CXT} {k : Nat} {f C : Addr} {fd : FuncData} {ps : List Str} {sp : Sp} {pins : List (Addr × Obj)} {σ : St} {H : Hp} {s : Shared} {ta tb : TE}
/-- what stands right of an own comparison of a slotted instance -/
def NFsl (K : PySem.W.Frag) (C : Addr) (H : Hp) (y : V) : Prop := (∃ b dy ws, y = .ref b ∧ Slt H b C dy ws) ∨ ∃ t, TyX K H y t ∧ PySem.W.subIn K t (.ref C) = some false
theorem NFsl.looks {y : V} {u : Value} (h : NFsl X.K C H y) (I : Inv X pins σ H s) (ry : RelV y u) : ∃ tb, PySem.W.Looks (model X.prog X.w) s.heap (typeOf u) tb ∧ PySem.W.notFirst X.K C tb = true := by
  rcases h with ⟨b, dy, ws, rfl, hb⟩ | ⟨t, ty, hs⟩
  · cases ry
    obtain ⟨sl, od, r, J, _⟩ := slt_inst I hb
    exact ⟨.ref C, J.type, by simp [PySem.W.notFirst]⟩
  · obtain ⟨P, Z, hp, _⟩ := kit_of I ry ty
    exact ⟨t, Z.ty _ _ I.kIn hp, by simp [PySem.W.notFirst, hs]⟩
end
end L2
namespace Sim
open PySem PySem.Spec PyProof.Rows L2 Evl SlX
def cN (C dx : Addr) : CP := ⟨fun _ o => o = .ins C dx [], fun _ h => h⟩
def cOw (x : Addr) : CP := ⟨fun _ o => o = .own x, fun _ h => h⟩
def cXd : CP := ⟨fun _ o => o = .xd [], fun _ h => h⟩
def cSl (x C dx : Addr) (ps : Ps) : CP := ⟨fun G o => ∃ vs, o = SlO x C dx vs ∧ PsAt ps G vs, fun e ⟨vs, h1, h2⟩ => ⟨vs, h1, h2.mono e⟩⟩
section
variable {K : PySem.W.Frag} {σ : L2.St} {G0 H0 G H G2 H2 W : Hp} {ls : List Addr} {cs : Cs} {l ld C : Addr} {ta : TA} {te to : TE} {α β γ ι : Type} {R : Rep α} {S : Rep β} {T : Rep γ} {A : AR ι} {D : Ends} {tz : TS} {fl : α → Ps}
/-- self.f = e, the first slot -/
theorem x_sl1 {i j j2 n : Nat} {f : Str} {p : Addr} {m : Option β} {x : β} (w : Wo G0 H0 ls G H cs) (hc : cs[j]? = some (l, cN C ld)) (hd : cs[j2]? = some (ld, cOw l)) (hi : σ[i]? = some (some (.ref l))) (h : E te σ G H S m) (hm : m = some x) (hC : SCls K C) (hs : Slot1 K C f p n)
    (hj : j ≠ j2) (k : ∀ H2 G2, Wo G0 H0 ls G2 H2 ((cs.set j2 (ld, cXd)).set j (l, cSl l C ld [(n, pd S x)])) → Ex G G2 → tz D σ H2) : tSeq (sSl K (tVar i) te f) tz D σ H :=
  h x hm H w.ex (Ex.refl _) (fun y H1 => tVar i σ H1 fun x H2 => ∃ a C dx p vs i, x = .ref a ∧ Slt H2 a C dx vs ∧ SCls K C ∧ Slot1 K C f p i ∧ tz D σ (slH H2 a C dx (putS i y vs))) fun v H3 G3 u r => by
    have w3 := w.up u
    obtain ⟨_, o3, k2, k3⟩ := w3.w.getAt hc
    subst k3
    refine ⟨.ref l, hi, l, C, ld, p, [], n, rfl, .inl ⟨k2, rfl⟩, hC, hs, ?_⟩
    have w4 := w3.writeAt (cp' := cXd) (o := .xd []) hd rfl
    have hc' : (cs.set j2 (ld, cXd))[j]? = some (l, cN C ld) := by rw [List.getElem?_set_ne (Ne.symm hj)]; exact hc
    exact k _ _ (w4.writeAt (cp' := cSl l C ld [(n, pd S x)]) (o := SlO l C ld (putS n v [])) hc' ⟨_, rfl, fun q hq => by
      rw [List.mem_singleton.mp hq]
      exact ⟨v, putS_get n v [], r⟩⟩) u.gg
/-- self.f = e, a further slot -/
theorem x_slN {i j j2 n : Nat} {f : Str} {p : Addr} {m : Option β} {x : β} {ps : Ps} (w : Wo G0 H0 ls G H cs) (hc : cs[j]? = some (l, cSl l C ld ps)) (hd : cs[j2]? = some (ld, cXd)) (hi : σ[i]? = some (some (.ref l))) (h : E te σ G H S m) (hm : m = some x) (hC : SCls K C) (hs : Slot1 K C f p n)
    (hj : j ≠ j2) (hn : ∀ p ∈ ps, p.1 ≠ n) (k : ∀ H2 G2, Wo G0 H0 ls G2 H2 ((cs.set j2 (ld, cXd)).set j (l, cSl l C ld (ps ++ [(n, pd S x)]))) → Ex G G2 → tz D σ H2) : tSeq (sSl K (tVar i) te f) tz D σ H :=
  h x hm H w.ex (Ex.refl _) (fun y H1 => tVar i σ H1 fun x H2 => ∃ a C dx p vs i, x = .ref a ∧ Slt H2 a C dx vs ∧ SCls K C ∧ Slot1 K C f p i ∧ tz D σ (slH H2 a C dx (putS i y vs))) fun v H3 G3 u r => by
    have w3 := w.up u
    obtain ⟨_, o3, k2, vs, rfl, k3⟩ := w3.w.getAt hc
    obtain ⟨_, o4, d2, d3⟩ := w3.w.getAt hd
    subst d3
    refine ⟨.ref l, hi, l, C, ld, p, vs, n, rfl, .inr ⟨k2, d2⟩, hC, hs, ?_⟩
    have w4 := w3.writeAt (cp' := cXd) (o := .xd []) hd rfl
    have hc' : (cs.set j2 (ld, cXd))[j]? = some (l, cSl l C ld ps) := by rw [List.getElem?_set_ne (Ne.symm hj)]; exact hc
    exact k _ _ (w4.writeAt (cp' := cSl l C ld (ps ++ [(n, pd S x)])) (o := SlO l C ld (putS n v vs)) hc' ⟨_, rfl, k3.put hn r⟩) u.gg
/-- the promise of an __init__ that stores slots -/
def PIs (C : Addr) (A : AR ι) (fl : α → Ps) (f : ι → Option α) : Sp := fun vs H Q _ => ∃ G x dx ws i o, vs = .ref x :: ws ∧ Wd G H [(x, cN C dx), (dx, cOw x)] ∧ A.r G ws i ∧ f i = some o ∧
  ∀ H2 G2, Fr G H G2 H2 [x, dx] → Wd G2 H2 [(x, cSl x C dx (fl o)), (dx, cXd)] → Q .non H2
theorem new_slt {x dx : Addr} (e : Ex G H) (nx : H x = none) (ndx : H dx = none) (ne : dx ≠ x) : Wd G (upd (upd H dx (.own x)) x (.ins C dx [])) [(x, cN C dx), (dx, cOw x)] := by
  have nx' : (upd H dx (.own x)) x = none := by rw [upd_ne ne.symm]; exact nx
  have e1 : Ex G (upd H dx (.own x)) := e.trans (Ex.new ndx)
  exact ((Wd.nil e).new ndx rfl).new nx' rfl
theorem sl_freeze {x dx : Addr} {ps : Ps} (w : Wd G H [(x, cSl x C dx ps), (dx, cXd)]) : ∃ G2, Ex G G2 ∧ Ex G2 H ∧ (∀ a, a ≠ x → a ≠ dx → G a = none → G2 a = none) ∧ ∃ vs, G2 x = some (SlO x C dx vs) ∧ G2 dx = some (.xd []) ∧ PsAt ps G2 vs := by
  obtain ⟨h1, o, h2, vs, rfl, h3⟩ := w.head
  obtain ⟨d1, o2, d2, d3⟩ := w.tail.head
  subst d3
  have ne : dx ≠ x := fun z => by
    have := w.nd
    rw [z] at this
    simp at this
  have e2 : Ex G (upd (upd G dx (.xd [])) x (SlO x C dx vs)) := (Ex.new d1).trans (Ex.new (by rw [upd_ne ne.symm]; exact h1))
  refine ⟨_, e2, fun a u e => ?_, fun a n1 n2 h => by rw [upd_ne n1, upd_ne n2]; exact h, vs, upd_same, by rw [upd_ne ne]; exact upd_same, h3.mono e2⟩
  by_cases q : a = x
  · subst q; rw [upd_same] at e; cases e; exact h2
  · rw [upd_ne q] at e
    by_cases q2 : a = dx
    · subst q2; rw [upd_same] at e; cases e; exact d2
    · rw [upd_ne q2] at e; exact w.ex a u e
theorem e_makeS {f : ι → Option α} {mi : Option ι} {X : XK} (ha : EA ta σ G W A mi) : E (tMake C (PIs C A fl f) [] X ta) σ G W (rSl C fl) (mi >>= f) := fun z hz H e e' Q q => by
  obtain ⟨i, hi, hz⟩ := bindS hz
  refine ha i hi H e e' _ fun vs H1 G1 u1 r1 => ?_
  intro x dx nx ndx ne
  rw [List.append_nil]
  refine ⟨G1, x, dx, vs, i, z, rfl, new_slt u1.gh nx ndx ne, r1, hz, fun H2 G2 fr w2 => ⟨rfl, ?_⟩⟩
  obtain ⟨G3, k1, k2, k3, vs', k4, k5, k6⟩ := sl_freeze w2
  have hh : Ex H1 H2 := fun a o h => by
    have na : a ≠ x := ne_of_none h nx
    have nd : a ≠ dx := ne_of_none h ndx
    exact fr.fr a o (by rw [upd_ne na, upd_ne nd]; exact h) fun z => by simp [na, nd] at z
  have up : Up G1 H1 G3 H2 := ⟨fr.gg.trans k1, k2, hh, fun a h1 h2 => by
    have na : a ≠ x := fun z => by subst z; exact h1 nx
    have nd : a ≠ dx := fun z => by subst z; exact h1 ndx
    exact k3 a na nd (fr.nw a (by rw [upd_ne na, upd_ne nd]; exact h1) h2)⟩
  exact q _ H2 G3 (u1.trans up) ⟨x, dx, vs', rfl, k4, k5, k6⟩
/-! own == -/
end
/-! facts of the text -/
theorem scl_ok {C : Str} {K : PySem.W.Frag} (h : sclB C K = true) : SCls K (He.ga K C) := by
  obtain ⟨h1, h⟩ := He.ba h
  obtain ⟨h2, h⟩ := He.ba h
  obtain ⟨h3, h4⟩ := He.ba h
  exact ⟨h1, h2, h3, of_decide_eq_true h4⟩
theorem slot_ok {C f : Str} {i : Nat} {K : PySem.W.Frag} (h : slotB C f i K = true) : Slot1 K (He.ga K C) f (He.ma K (He.ga K C) f) i := by
  obtain ⟨h1, h⟩ := He.ba h
  obtain ⟨h2, h⟩ := He.ba h
  obtain ⟨h3, h⟩ := He.ba h
  obtain ⟨h4, h⟩ := He.ba h
  obtain ⟨h5, h6⟩ := He.ba h
  exact ⟨of_decide_eq_true h1, of_decide_eq_true h2, of_decide_eq_true h3, of_decide_eq_true h4, of_decide_eq_true h5, of_decide_eq_true h6⟩
end Sim

/-! cells of any kind; dicts; texts -/
namespace L2
open PySem PySem.Spec PyProof.Rows
section
variable {X : Cx}
def rMulS : R2 := fun x y H Q => ∃ z n, x = .str z ∧ y = .int n ∧ MulOk z n ∧ Q (.str (Txt.mul z n)) H
theorem op_mulS : OpR X (binaryOp .Mult) rMulS := by
  intro pins s σ H x y v u Q I rx ry h
  obtain ⟨z, n, rfl, rfl, hok, q⟩ := h
  obtain ⟨t, rfl⟩ := rx
  obtain ⟨t', rfl⟩ := ry
  exact SB.mul hok fun t2 k => ⟨.str _, H, I.tok _, ⟨_, rfl⟩, q⟩
abbrev rAddS : R2 := fun x y H Q => ∃ i j, x = .str i ∧ y = .str j ∧ i.length + j.length ≤ sizeLine ∧ Q (.str (i ++ j)) H
end
end L2
namespace Sim
open PySem L2 Evl
/-! ### texts -/
def addS (x y : Str) : Option Str := bif decide (x.length + y.length < 100000) then some (x ++ y) else none
def mulS (z : Str) (n : Int) : Option Str := bif decide (n < 100 ∧ -100 < n ∧ z.length < 1000) then some (Txt.mul z n) else none
def ixS (z : Str) (i : Int) : Option Str := bif decide (z.length < 100000) then (atI z.cps.toList i >>= fun c => some ⟨#[c]⟩) else none
theorem bifO1 {α : Type} {c : Prop} [Decidable c] {m : Option α} {z : α} (h : (bif decide c then m else none) = some z) : c ∧ m = some z := by
  cases hc : decide c with
  | false => rw [hc] at h; cases h
  | true => rw [hc] at h; exact ⟨of_decide_eq_true hc, h⟩
section
variable {K : PySem.W.Frag} {σ : L2.St} {G0 H0 G H G2 H2 W : Hp} {ls : List Addr} {cs : Cs} {l : Addr} {cp' : CP} {ta : TA} {te td ti tx : TE} {α β γ ι κ : Type} {R : Rep α} {S : Rep β} {T : Rep γ} {A : AR ι} {D : Ends} {tz : TS}
theorem rr_addS : RR rAddS rS rS rS (fun x y => addS x y) := fun v w x y z H G hv hw hz e Q q => by
  cases hv; cases hw
  obtain ⟨h, hz⟩ := bifO1 hz
  cases hz
  exact ⟨x, y, rfl, rfl, by rw [sizeLine_eq]; omega, q _ H G (Up.refl e) rfl⟩
theorem rr_mulS : RR rMulS rS rI rS (fun x y => mulS x y) := fun v w x y z H G hv hw hz e Q q => by
  cases hv; cases hw
  obtain ⟨⟨h1, h2, h3⟩, hz⟩ := bifO1 hz
  cases hz
  refine ⟨x, y, rfl, rfl, ⟨?_, fun h4 _ h5 => ?_, fun h4 _ => ?_⟩, q _ H G (Up.refl e) rfl⟩
  · rw [Bool.or_eq_false_iff]; exact ⟨decide_eq_false (by omega), decide_eq_false (by omega)⟩
  · have : (2 ^ 63 - 1 : Int) / y ≥ 1000 := by
      apply (Int.le_ediv_iff_mul_le (by omega)).mpr
      omega
    omega
  · have h6 : x.length * y.toNat ≤ 1000 * 100 := Nat.mul_le_mul (by omega) (by omega)
    exact decide_eq_false (by rw [sizeLine_eq]; omega)
theorem rr_ixS : RR rIxS rS rI rS (fun x y => ixS x y) := fun v w x y z H G hv hw hz e Q q => by
  cases hv; cases hw
  obtain ⟨h, hz⟩ := bifO1 hz
  obtain ⟨c, hc, hz⟩ := bindS hz
  cases hz
  exact ⟨x, y, c, rfl, rfl, by rw [sizeLine_eq]; omega, hc, q _ H G (Up.refl e) rfl⟩
/-! ### cells of any kind -/
variable {cp : β → CP}
/-! ### dicts -/
variable {κ : Type} [DecidableEq κ] {kf : κ → Key}
/-- how a key stands -/
structure KyR (kf : κ → Key) (S : Rep κ) : Prop where
  v : ∀ {H : Hp} {v : V} {k : κ}, S.r H v k → v = kV (kf k)
end
end Sim

/-! displays and making of objects, opened -/
namespace Sim
open PySem L2 Evl
section
variable {K : PySem.W.Frag} {C : Addr} {σ : L2.St} {G0 H0 G H G2 H2 W : Hp} {ls : List Addr} {cs : Cs} {l : Addr} {ta : TA} {sp : Sp} {dvs : List V} {X : XK} {Q : VK} {α β ι : Type} {R : Rep α} {S : Rep β} {A : AR ι}
end
end Sim

/-! slices of lists, f-strings, join -/
namespace Sim
open PySem L2 Evl
section
variable {K : PySem.W.Frag} {σ : L2.St} {G H W : Hp} {te to : TE} {tl th : TO} {α : Type} {R : Rep α}
/-! f-strings -/
/-! join -/
/-! p[0], p[1] with effects; a cell's element -/
variable {G0 H0 : Hp} {ls : List Addr} {cs : Cs} {l : Addr} {β : Type} {S : Rep β}
/-! C(.., cell, ..) of a class with slots, the cell only read -/
variable {κ ι : Type} {B : Rep κ} {C : Addr} {A : AR ι} {fl : α → Ps} {ad : ι → Addr} {ys : List κ} {ta : TA}
/-! comprehensions over a lent list -/
section
variable {γ : Type} {T : Rep γ} {wi : TI} {g : TG} {tt : TT}
end
/-! what is never reached -/
end
end Sim

/-! for .. in zip(tuple, tuple) -/
namespace Sim
open PySem L2 Evl
section
variable {K : PySem.W.Frag} {σ : L2.St} {G0 H0 G H W : Hp} {ls : List Addr} {cs : Cs} {ta : TA} {α β : Type} {R : Rep α} {S : Rep β} {D : Ends} {tu tz : TS} {g : TG}
/-! displays of lists, sums of lists, opened -/
end
end Sim

/-! an object called: x(..), x of an own class with __call__ -/
namespace PySem.W
open PySem PySem.Spec PySem.Calls PyProof.Rows
end PySem.W
namespace L2
open PySem PySem.Spec PyProof.Rows
section
variable {X : Cx} {CX : CXT} {k i : Nat} {f C : Addr} {fd : FuncData} {ps : List Str} {sp : Sp} {E : St → XK} {x : Str} {p pos : Pos} {e : Expr} {es : List Expr} {t : TA}
end
end L2

set_option maxHeartbeats 4000000
/-! own classes: an __init__ whose first statement is super().__init__(..), over an own class's __init__ -/
namespace Sim
open PySem PySem.Spec PyProof.Rows L2 PySem.W PySem.Calls NdefX
section
variable {CX : CXT} {P : Program} {w : World} {K : PySem.W.Frag} {mg : Str → Option Value} {base : Heap} {N ps psg : List Str} {F : NF} {C D f g : Addr} {fd fdg : FuncData} {k : Nat} {sp spg : Sp} {e : Expr} {es : List Expr} {rest : List Stmt} {p0 p1 p2 p3 p4 : Pos} {pl : Sem Bool}
end
end Sim

/-! askers: objects whose field `asks` holds a list that is changed; that list is a cell of the caller -/
namespace Sim
open PySem L2 Evl
section
variable {K : PySem.W.Frag} {C : Addr} {σ : L2.St} {G0 H0 G H G2 H2 W : Hp} {ls : List Addr} {cs : Cs} {l : Addr} {ta : TA} {te : TE} {X : XK} {α β κ ι : Type} {R : Rep α} {S : Rep β} {T : Rep α} {B : Rep κ} {A : AR ι} {D : Ends} {tz : TS} {ns : List Str}
end
end Sim

/-! the hook with an __init__ that calls super().__init__ of an own class -/
namespace Sim
section
open PySem PySem.Spec PyProof.Rows L2 PySem.W PySem.Calls NdefX
end
open PySem PySem.Spec PyProof.Rows L2 Evl
structure SaysZ (fa : List He.Fa) (fn : List He.DefD) (ex : List (PySem.W.Frag → Bool)) (xs : List XcD) (gs : List GeD) (sp : List SpD) (file : Str) (K : PySem.W.Frag) : Prop where
  s : SaysX fa fn ex xs gs file K
  o : (sp.all fun d => d.ok K file) = true
  v : (sp.map fun d => fnYm K d.cls d.m) = sp.map SpD.val
structure TxZ (fa : List He.Fa) (fn : List He.DefD) (es : List (PySem.W.Frag → Bool)) (xs : List XcD) (gs : List GeD) (sp : List SpD) (file : Str) (K : PySem.W.Frag) (mg : Str → Option Value) : Prop extends TxX fa fn es xs gs file K mg where
  so : (sp.all fun d => d.ok K file) = true
  sv : (sp.map fun d => fnYm K d.cls d.m) = sp.map SpD.val
section
variable {fa : List He.Fa} {fn : List He.DefD} {es : List (PySem.W.Frag → Bool)} {xs : List XcD} {gs : List GeD} {sp : List SpD} {file : Str} {K : PySem.W.Frag} {mg : Str → Option Value}
theorem TxZ.mk' {h : Heap} (KX : K.In h) (G : h.Ns mainGlobals mg) (c : SaysZ fa fn es xs gs sp file K) : TxZ fa fn es xs gs sp file K mg := ⟨TxX.mk' KX G c.s, c.o, c.v⟩
end
end Sim

/-! askers: calls that read the lent list and may raise; loops over a lent list that an expression gives -/
namespace Sim
open PySem L2 Evl
section
variable {K : PySem.W.Frag} {C : Addr} {σ : L2.St} {G0 H0 G H G2 H2 W : Hp} {ls : List Addr} {cs : Cs} {l : Addr} {ta : TA} {X : XK} {te to tl : TE} {α β κ ι γ : Type} {R : Rep α} {S : Rep β} {T : Rep γ} {B : Rep κ} {A : AR ι} {D : Ends} {tz tu : TS} {g : TG} {ns : List Str} {fl : α → List Pd}
/-! ### tests, opened -/
end
end Sim

/-! askers handed to defs; parts of mixed data -/
namespace Sim
open PySem L2 Evl
section
variable {K : PySem.W.Frag} {C : Addr} {σ : L2.St} {G0 H0 G H G2 H2 W : Hp} {ls : List Addr} {cs : Cs} {l : Addr} {ta : TA} {X : XK} {te to tl : TE} {α β κ ι γ : Type} {R : Rep α} {S : Rep β} {T : Rep γ} {B : Rep κ} {A : AR ι} {D : Ends} {tz tu : TS}
/-! mixed data -/
end
end Sim

/-! a field written again -/
namespace Sim
open PySem L2 Evl
section
variable {K : PySem.W.Frag} {C : Addr} {σ : L2.St} {G0 H0 G H : Hp} {ls : List Addr} {cs : Cs} {l : Addr} {te : TE} {β : Type} {S : Rep β} {D : Ends} {tz : TS} {ns : List Str}
end
end Sim

/-! cells of any kind, lent to a def that only reads them -/
namespace Sim
open PySem L2 Evl
section
variable {σ : L2.St} {G0 H0 G H G1 H1 W : Hp} {ls : List Addr} {cs : Cs} {l : Addr} {cp0 : CP} {te : TE} {α β : Type} {R : Rep α} {S : Rep β} {cp : β → CP}
variable {K : PySem.W.Frag} {C : Addr} {ta : TA} {X : XK} {κ ι δ γ : Type} {A : AR ι} {B : Rep κ} {D : Ends} {tz : TS} {ns : List Str}
/-! dict(d), d a dict -/
end
end Sim

/-! TableAsker: an __init__ with a default; arguments read at the heap itself -/
namespace Sim
open PySem PySem.Spec PyProof.Rows L2 Evl
section
variable {K : PySem.W.Frag} {C : Addr} {σ : L2.St} {G0 H0 G H G2 H2 W : Hp} {ls : List Addr} {cs : Cs} {l : Addr} {ta tb tc : TE} {td : TE} {X : XK} {α β δ κ ι : Type} {R : Rep ι} {S : Rep β} {S2 : Rep δ} {B : Rep κ} {D : Ends} {tz : TS} {ns : List Str}
end
end Sim

/-! a comprehension whose test changes cells -/
namespace Sim
open PySem L2 Evl
section
variable {K : PySem.W.Frag} {σ : L2.St} {G0 H0 G H : Hp} {ls : List Addr} {cs : Cs} {tl te : TE} {tt : TT} {α γ : Type} {R : Rep α} {T : Rep γ} {D : Ends} {tz : TS}
end
end Sim
namespace Sim
open PySem L2 Evl
section
variable {K : PySem.W.Frag} {σ : L2.St} {G0 H0 G H : Hp} {ls : List Addr} {cs : Cs} {l : Addr} {α κ : Type} [DecidableEq κ] {kf : κ → Key} {R : Rep α} {Q : VK}
end
end Sim

/-! functions made by a lambda; their captured cells laid in the heap as known things -/
namespace LamF
open PySem PySem.Spec PyProof.Rows L2 LamX NdefX
/-- cells laid, taken out -/
def layH (cs : List (Addr × Obj)) (H : Hp) : Hp := fun a => match cs.lookup a with
  | some o => some (CelO o)
  | none => H a
section
variable {cs : List (Addr × Obj)} {H H' H0 : Hp} {a : Addr} {o : Obj}
theorem unlay_out (h : cs.lookup a = none) : unlayH cs H a = H a := by unfold unlayH; rw [h]
/-- these cells stand in h, none of them a frame's -/
structure Stand (fs : List Addr) (cs : List (Addr × Obj)) (h : Heap) : Prop where
  at_ : ∀ c o, cs.lookup c = some o → h.get? c = some o
  cel : ∀ c o, cs.lookup c = some o → ∃ v, o.data = .cell v
  nf : ∀ c o, cs.lookup c = some o → c ∉ fs
end
section
variable {P : Program} {w : World} {cs : List (Addr × Obj)} {H H' H0 H1 : Hp} {h h' B : Heap} {fs : List Addr}
end
/-- what may leave a def, told with or without the cells -/
structure CXlay (CXT0 : CXT) (P : Program) (w : World) : Prop where
  un : ∀ {outer : List Env} {H : Hp} {s s' : Shared} {E : XK} {e : Value} {cs : List (Addr × Obj)}, Stand (frs outer) cs s.heap → (∀ c o, cs.lookup c = some o → H c = some (CelO o)) → CXT0 outer H s E e s' → CXT0 outer (unlayH cs H) s (fun c d H' => E c d (layH cs H')) e s'
  ly : ∀ {outer : List Env} {H : Hp} {s s' : Shared} {E : XK} {e : Value} {cs : List (Addr × Obj)}, Stand (frs outer) cs s.heap → (∀ c o, cs.lookup c = some o → H c = none) → CXT0 outer H s (fun c d H' => E c d (layH cs H')) e s' → CXT0 outer (layH cs H) s E e s'
section
variable {P : Program} {w : World} {CX : CXT} {outer : List Env} {H : Hp} {s s' : Shared} {Q : VK} {E : XK} {cs : List (Addr × Obj)}
end
end LamF

/-! lambdas: made, called, handed over -/
namespace LamF
open PySem PySem.Spec PyProof.Rows L2 LamX NdefX
abbrev LF.nf (F : LF) : NF := ⟨"<lambda>", F.qual, F.params, [], F.scope, F.cl, F.c⟩
/-- what the making of a lambda leaves -/
structure Lm (H H1 : Hp) (P f : Addr) (F : LF) (ps0 ps : Array Value) : Prop where
  nf : H f = none
  src : H F.c = none ∨ ∃ pos, codeAmong pos ps0.toList = some (.ref F.c)
  old : ∀ (pos : Pos) (cv : Value), codeAmong pos ps.toList = some cv → codeAmong pos ps0.toList = some cv ∨ cv = .ref F.c
  at_ : H1 f = some (FnL f F)
  co : H1 F.c = some (CodeO F.c F.qual)
  tb : H1 P = some (.tbl ps)
  cd : Cds H1 F.qual ps
  ex : ∀ b o, b ≠ P → H b = some o → H1 b = some o
  nw : ∀ b, H1 b ≠ none → H b = none → b = f ∨ b = F.c
section
variable {X : Cx} {pins : List (Addr × Obj)} {σ : L2.St} {H : Hp} {s : Shared}
end
/-! ### a call with the own cells of these names laid -/
structure LaidBy (X : Cx) (fr : List Str) (σ : L2.St) (H : Hp) (cs : List (Addr × Obj)) : Prop where
  inj : ∀ x y c, X.env.cells.lookup x = some c → X.env.cells.lookup y = some c → x = y
  nn : ∀ c o, cs.lookup c = some o → H c = none
  at_ : ∀ y ∈ fr, ∃ c o u, X.env.cells.lookup y = some c ∧ cs.lookup c = some o ∧ o.data = .cell u ∧ ∀ (i : Nat) (v : V), X.N[i]? = some y → σ[i]? = some (some v) → Vis X.env.scope y → ∃ u', u = some u' ∧ RelV v u'
section
variable {X : Cx} {pins : List (Addr × Obj)} {σ : L2.St} {H : Hp} {s : Shared} {fr : List Str}
end
section
variable {X : Cx} {pins : List (Addr × Obj)} {σ : L2.St} {H : Hp} {s : Shared} {fr : List Str} {cs : List (Addr × Obj)}
end
section
variable {X : Cx} {CX : CXT} {k : Nat} {f : Addr} {fd : FuncData} {ps : List Str} {sp : Sp} {E : L2.St → XK} {x : Str} {p pos : Pos} {e : Expr} {es : List Expr} {t : TA} {fr : List Str}
end
end LamF

/-! functions made by a lambda: called; handed back by a def -/
namespace LamF
open PySem PySem.Spec PyProof.Rows L2 LamX NdefX
section
variable {H : Hp} {f : Addr} {F : LF} {fr : List Str} {us : List V}
theorem Clos.look (C : Clos H f F fr us) {i : Nat} {y : Str} {c : Addr} {o : Obj} (hi : fr[i]? = some y) (h1 : F.cl.lookup y = some c) (h2 : H c = some (CelO o)) : (celsH F fr H).lookup c = some o := by
  have : (c, o) ∈ celsH F fr H := List.mem_filterMap.mpr ⟨y, List.mem_of_getElem? hi, by
    rw [h1]
    simp only [Option.bind_eq_bind, Option.bind_some]
    rw [h2]
    rfl⟩
  obtain ⟨o', e⟩ := look_mem this
  have := (C.mem e).1
  rw [h2] at this
  cases this
  exact e
end
section
variable {CX : CXT} {P : Program} {w : World} {K : PySem.W.Frag} {mg : Str → Option Value} {base : Heap} {N ps fr psg : List Str} {F : LF} {f g : Addr} {fdg : FuncData} {k : Nat} {spg : Sp} {x : Str} {e : Expr} {es : List Expr} {p0 pos : Pos} {js : List Nat} {us : List V}
end
/-! ### x(..), x a local name that holds something that can be called -/
section
variable {X : Cx} {CX : CXT} {k i : Nat} {E : L2.St → XK} {x : Str} {p pos : Pos} {e : Expr} {es : List Expr} {t : TA}
end
end LamF

/-! a def that hands back a lambda; defs whose code object is told -/
namespace LamF
open PySem PySem.Spec PyProof.Rows L2 LamX NdefX
section
variable {P : Program} {w : World} {K : PySem.W.Frag} {mg : Str → Option Value} {base : Heap} {x qual : Str} {params : Arguments} {body : List Stmt} {scope : Scope} {f : Addr} {fd : FuncData} {CX : CXT} {N ps : List Str} {k : Nat} {sp : Sp}
/-- what such a def promises: the function made, its captured names' values -/
structure LmC (H H1 : Hp) (P fl : Addr) (F : LF) (ps0 ps : Array Value) : Prop where
  nf : H fl = none
  src : H F.c = none ∨ ∃ pos, codeAmong pos ps0.toList = some (.ref F.c)
  old : ∀ (pos : Pos) (cv : Value), codeAmong pos ps.toList = some cv → codeAmong pos ps0.toList = some cv ∨ cv = .ref F.c
  tb : H1 P = some (.tbl ps)
  cd : Cds H1 F.qual ps
  ex : ∀ b o, b ≠ P → H b = some o → H1 b = some o
  ceN : ∀ y c, F.cl.lookup y = some c → H c = none
end
end LamF

/-! things that are asked: functions and objects called with a name; what they change is a state -/
namespace Sim
open PySem PySem.Spec PyProof.Rows L2 Evl LamX LamF NdefX
/-! ### asked -/
section
variable (P : Program) (w : World) (K : PySem.W.Frag) (mg : Str → Option Value) (base : Heap) (k : Nat)
end
section
variable {P : Program} {w : World} {K : PySem.W.Frag} {mg : Str → Option Value} {base : Heap} {k kk : Nat} {κ : Type} {ci : κ → Cs}
variable {G0 H0 G H G2 H2 : Hp} {ls : List Addr} {cs : Cs} {f : Addr} {X : Cx} {σ : L2.St} {i : Nat} {CX : CXT}
end
/-! ### defs that ask -/
section
variable (P : Program) (w : World) (K : PySem.W.Frag) (mg : Str → Option Value) (base : Heap) (k : Nat)
end
/-! ### a function made by a lambda and handed over at once -/
/-- what stands below a heap without the laid cells -/
class Dn {α : Type} (R : Rep α) : Prop where
  dn : ∀ {G : Hp} {cs : List (Addr × Obj)} {v : V} {x : α}, (∀ c o, cs.lookup c = some o → G c = some (CelO o)) → R.r G v x → R.r (unlayH cs G) v x
theorem dn_at {G : Hp} {cs : List (Addr × Obj)} {a : Addr} {o : HO} (hl : ∀ c o, cs.lookup c = some o → G c = some (CelO o)) (n : ∀ o', o ≠ CelO o') (h : G a = some o) : unlayH cs G a = some o := by
  cases q : cs.lookup a with
  | none => rw [unlay_out q]; exact h
  | some o' => rw [hl a o' q] at h; exact absurd (Option.some.inj h).symm (n o')
instance : Dn rI := ⟨fun _ h => h⟩
instance : Dn rS := ⟨fun _ h => h⟩
instance : Dn rB := ⟨fun _ h => h⟩
instance : Dn rU := ⟨fun _ h => h⟩
instance : Dn rA := ⟨fun _ h => h⟩
instance {α β : Type} {R : Rep α} {S : Rep β} [Dn R] [Dn S] : Dn (rP R S) := ⟨fun hl ⟨a, x, y, h1, h2, h3, h4⟩ => ⟨a, x, y, h1, dn_at hl (fun _ z => by cases z) h2, Dn.dn hl h3, Dn.dn hl h4⟩⟩
instance {α : Type} {R : Rep α} [Dn R] : Dn (rL R) := ⟨fun hl ⟨a, vs, h1, h2, h3⟩ => ⟨a, vs, h1, dn_at hl (fun _ z => by cases z) h2, Paired.mapP h3 fun _ _ => Dn.dn hl⟩⟩
instance {α : Type} {R : Rep α} [Dn R] : Dn (rT R) := ⟨fun hl ⟨a, vs, h1, h2, h3⟩ => ⟨a, vs, h1, h2.elim (fun h2 => .inl (dn_at hl (fun _ z => by cases z) h2)) fun ⟨o, h2⟩ => .inr ⟨o, dn_at hl (fun _ z => by cases z) h2⟩, Paired.mapP h3 fun _ _ => Dn.dn hl⟩⟩
section
variable {G0 H0 G H G2 H2 : Hp} {ls : List Addr} {cs : Cs} {cels : List (Addr × Obj)}
end
section
variable {G0 H0 G H H1 : Hp} {ls : List Addr} {cs : Cs} {Pt fl : Addr} {F : LF} {ps0 ps : Array Value} {j : Nat} {q : Str}
end
end Sim

/-! x = f(.., lambda ..): the function asks a list of the def's own -/
namespace Sim
open PySem PySem.Spec PyProof.Rows L2 Evl LamX LamF NdefX
section
variable {X : Cx} {kk : Nat} {σ : L2.St} {G0 H0 G H : Hp} {ls : List Addr} {cs : Cs} {ta : TA} {ι α γ : Type} {A : AR ι} {R : Rep γ} {Ra : Rep α} {D : Ends} {tz : TS}
end
end Sim

/-! calls that change cells at any places; the tail of the cells; lambdas handed over, printed by gen.py -/
namespace Sim
open PySem PySem.Spec PyProof.Rows L2 Evl LamX LamF NdefX
section
variable {σ : L2.St} {G0 H0 G H G2 H2 : Hp} {ls : List Addr} {cs : Cs}
/-! ### the tail -/
variable {P : Program} {w : World} {K : PySem.W.Frag} {mg : Str → Option Value} {base : Heap} {k : Nat} {κ : Type} {ci : κ → Cs} {f : Addr}
end
end Sim

/-! the hook with tables of code objects; the law's end with tables -/
namespace Sim
open PySem PySem.Spec PyProof.Rows L2 Evl LamX LamF NdefX
def TbD.cel (K : PySem.W.Frag) (d : TbD) : Addr × CP := (tabOf K (He.fAd K d.at_), cTab d.q)
structure SaysT (fa : List He.Fa) (fn : List He.DefD) (ex : List (PySem.W.Frag → Bool)) (xs : List XcD) (gs : List GeD) (sp : List SpD) (tf : List TbD) (file : Str) (h : Heap) (K : PySem.W.Frag) : Prop where
  s : SaysZ fa fn ex xs gs sp file K
  hd : ∀ p ∈ tf, PySem.W.codeHdIn K (p.c K).1 (p.c K).2 = true
  out : ∀ p ∈ tf, K.lookup (p.c K).2 = none
  nd : (tf.map fun p => (p.c K).2).Nodup
  empty : ∀ p ∈ tf, h.get? (p.c K).2 = some { cls := .none, data := .fields #[] }
end Sim

/-! a for over a list that is a cell and stays as it is; and in a test that changes cells -/
namespace Sim
open PySem L2 Evl
section
variable {K : PySem.W.Frag} {σ : L2.St} {G0 H0 G H G2 H2 : Hp} {ls : List Addr} {cs : Cs} {l : Addr} {cp cp' : CP} {tu tz : TS} {t u : TT} {g : TG} {D : Ends} {α : Type} {R : Rep α}
end
end Sim

/-! sides: values that are called with what is asked -/
namespace LamF
open PySem PySem.Spec PyProof.Rows L2 LamX NdefX
section
variable {X : Cx} {CX : CXT} {k : Nat} {pins : List (Addr × Obj)} {σ : L2.St} {H : Hp} {s : Shared} {a C dx : Addr} {fs : List (Str × V)} {v : V} {A : Around} {E : Value → Shared → Prop}
end
end LamF
namespace Sim
open PySem PySem.Spec PyProof.Rows L2 Evl LamX LamF NdefX
/-! ### an object with an attribute -/
/-! ### sides -/
section
variable (P : Program) (w : World) (K : PySem.W.Frag) (mg : Str → Option Value) (base : Heap) (j : Nat)
end
section
variable {P : Program} {w : World} {K : PySem.W.Frag} {mg : Str → Option Value} {base : Heap} {j k kk : Nat} {κ ω : Type} {ci : κ → Cs} {G0 H0 G H G2 H2 : Hp} {ls : List Addr} {cs : Cs} {f fk : Addr} {rO : Rep ω} {σ : L2.St}
variable {sem : ∀ {κ : Type}, (κ → Str → Option ((Xn ⊕ Int) × κ)) → ω → κ → Option ((Xn ⊕ Int) × κ)}
end
end Sim

/-! what sides are: objects, lambdas, defs; things that are asked: objects, lambdas -/
namespace Sim
open PySem PySem.Spec PyProof.Rows L2 Evl LamX LamF NdefX
section
variable {P : Program} {w : World} {K : PySem.W.Frag} {mg : Str → Option Value} {base : Heap} {j k kk : Nat} {κ ω : Type} {ci : κ → Cs} {G0 H0 G H G2 H2 : Hp} {ls : List Addr} {cs : Cs} {f fk a C f0 : Addr} {rO : Rep ω} {σ : L2.St} {fd : FuncData} {ps : List Str}
end
section
variable {X : Cx} {kk : Nat} {σ : L2.St} {G0 H0 G H : Hp} {ls : List Addr} {cs : Cs} {ta : TA} {ι α γ : Type} {A : AR ι} {R : Rep γ} {Ra : Rep α} {D : Ends} {tz : TS}
end
end Sim

/-! methods whose arguments change cells; a call that hands on what is asked and may raise -/
namespace Sim
open PySem PySem.Spec PyProof.Rows L2 Evl LamX LamF NdefX
section
variable {P : Program} {w : World} {K : PySem.W.Frag} {mg : Str → Option Value} {base : Heap} {j k kk : Nat} {κ ω α β : Type} {ci : κ → Cs} {G0 H0 G H G2 H2 W : Hp} {ls : List Addr} {cs : Cs} {f fk a C f0 : Addr} {rO : Rep ω} {σ : L2.St} {fd : FuncData} {ps ns : List Str} {to : TE} {ta : TA}
/-- another reading of the same value -/
theorem e_cv {te : TE} {R : Rep α} {S : Rep β} {m : Option α} {c : α → β} (h : E te σ G W R m) (hc : ∀ {G : Hp} {v : V} {x : α}, R.r G v x → S.r G v (c x)) : E te σ G W S (m >>= fun x => some (c x)) := fun z hz H e e' Q q => by
  obtain ⟨x, hx, hz⟩ := bindS hz
  cases hz
  exact h x hx H e e' _ fun v H2 G2 u r => q v H2 G2 u (hc r)
end
end Sim

/-! a | b of two own classes with the same method -/
namespace PySem.W
open PySem PySem.Spec PyProof.Rows PySem.Calls
variable {prog : Program} {w : World} {A : Around} {E : Value → Shared → Prop} {s : Shared} {K : Frag} {x C D L f g : Addr} {h₀ : Heap} {m : Str → Option Value} {ox : Obj} {od : Option Obj}
end PySem.W
namespace L2
open PySem PySem.Spec PyProof.Rows
structure OpOk (K : PySem.W.Frag) (C D : Addr) (nm : String) (f : Addr) : Prop where
  sc : PySem.W.selfFirst K C = true
  at_ : PySem.W.findIn K (.ref C) (PySem.dunder nm) = some (some (.ref f))
  fn : PySem.W.isFn K (.ref f) = true
  two : C = D ∨ (PySem.W.selfFirst K D = true ∧ PySem.W.findIn K (.ref C) (dunderR nm) = some none ∧ (∃ g, PySem.W.findIn K (.ref D) (PySem.dunder nm) = some (some (.ref g))) ∧ PySem.W.findIn K (.ref D) (dunderR nm) = some none ∧ PySem.W.subIn K (.ref D) (.ref C) = some false)
section
variable {X : Cx} {CX : CXT} {k : Nat} {f C : Addr} {fd : FuncData} {ps : List Str} {sp : Sp} {pins : List (Addr × Obj)} {σ : St} {H : Hp} {s : Shared} {ta tb : TE}
end
end L2
namespace Sim
open PySem PySem.Spec PyProof.Rows L2 Evl LamX LamF NdefX
end Sim

/-! reversed; values that are an int or a text -/
namespace Sim
open PySem PySem.Spec PyProof.Rows L2 Evl
section
variable {K : PySem.W.Frag} {σ : L2.St} {G0 H0 G H G2 H2 W : Hp} {ls : List Addr} {cs : Cs} {ta : TA} {te : TE} {α β : Type} {R : Rep α} {D : Ends} {tu tz : TS} {g : TG}
end
end Sim

/-! a def that hands back a lambda: its function, told of the data heap -/
namespace Sim
open PySem PySem.Spec PyProof.Rows L2 Evl LamX LamF NdefX
section
variable {P : Program} {w : World} {K : PySem.W.Frag} {mg : Str → Option Value} {base : Heap} {CX : CXT} {k j : Nat} {f Pt : Addr} {fd : FuncData} {ps fr : List Str} {q : Str} {lp : Arguments} {lb : Expr} {lsc : Scope} {ws : List V → List V} {tb : Cs}
end
end Sim

/-! askers asked where nothing is raised; their cell at any place -/
namespace Sim
open PySem PySem.Spec PyProof.Rows L2 Evl LamX LamF NdefX
section
variable {P : Program} {w : World} {K : PySem.W.Frag} {mg : Str → Option Value} {base : Heap} {k : Nat} {κ : Type} {ci : κ → Cs} {G0 H0 G H G2 H2 Gq Hq : Hp} {ls : List Addr} {cs csq : Cs} {fk : Addr} {σ : L2.St}
end
end Sim

/-! a lambda whose body asks its own parameter -/
namespace LamF
open PySem PySem.Spec PyProof.Rows L2 LamX NdefX
section
variable {CX : CXT} {P : Program} {w : World} {K : PySem.W.Frag} {mg : Str → Option Value} {base : Heap} {N ps fr : List Str} {F : LF} {f : Addr} {k i : Nat} {x : Str} {e : Expr} {es : List Expr} {p pos : Pos} {us : List V}
end
end LamF

/-! what asks in a lambda's body -/
namespace Sim
open PySem PySem.Spec PyProof.Rows L2 Evl LamX LamF NdefX
section
variable {P : Program} {w : World} {K : PySem.W.Frag} {mg : Str → Option Value} {base : Heap} {N ps fr : List Str} {F : LF} {f fk : Addr} {k i jn : Nat} {us : List V} {G G2 H H2 : Hp} {κ : Type} {ci : κ → Cs} {σ : L2.St}
end
end Sim

/-! a def called at the slots, opened; a global name as data -/
namespace Sim
open PySem PySem.Spec PyProof.Rows L2 Evl
section
variable {σ : L2.St} {G W H : Hp} {α : Type} {R : Rep α}
end
section
variable {K : PySem.W.Frag} {C : Addr} {σ : L2.St} {G0 H0 G H : Hp} {ls : List Addr} {cs : Cs} {X : XK} {α β δ κ ι : Type} {R : Rep ι} {S : Rep β} {S2 : Rep δ} {B : Rep κ} {ns : List Str}
end
end Sim

set_option maxHeartbeats 2000000
/-! in: data in a list, own objects in a list; dicts compared; tuples of several parts -/
namespace GQ
open PySem PySem.SeqAt
open AutoSeq1 (wpAny_loadPart')
open MeetsSeq MeetsSeq2 MeetsSeq3 SeqRoads2
section
variable {prog : Program} {w : World} {A : Around} {R : Result → Shared → Prop}
end
section
variable {prog : Program} {w : World} {A : Around} {E : Value → Shared → Prop} {s : Shared}
end
end GQ
namespace L2
open PySem PySem.Spec PyProof.Rows SlX
section
variable {X : Cx} {k : Nat} {f C : Addr} {fd : FuncData} {ps : List Str} {sp : Sp} {pins : List (Addr × Obj)} {σ : St} {H : Hp} {s : Shared}
end
end L2

set_option maxHeartbeats 2000000
/-! the same, told by mirrors -/
namespace L2
open PySem PySem.Spec PyProof.Rows SlX
end L2

set_option maxHeartbeats 2000000
namespace Sim
open PySem PySem.Spec PyProof.Rows L2 Evl SlX
section
variable {K : PySem.W.Frag} {C : Addr} {σ : L2.St} {G0 H0 G H G2 H2 W Gn Wn : Hp} {ls : List Addr} {cs : Cs} {l : Addr} {ta tb tc tl te ti tk : TE} {tt : TT} {α β δ κ ι γ : Type} {R : Rep α} {S : Rep β} {T : Rep γ} {A : AR ι}
/-! ### what a value stands for is one thing -/
/-! ### x in xs of own objects -/
/-! ### x in xs of data -/
/-! ### dicts of whole numbers compared -/
/-! ### tuples of several parts -/
def rTup (A : AR ι) : Rep ι := ⟨fun H v i => ∃ a vs, v = .ref a ∧ H a = some (.tup vs) ∧ A.r H vs i, fun e ⟨a, vs, h1, h2, h3⟩ => ⟨a, vs, h1, e _ _ h2, A.mono e h3⟩⟩
/-- parts as data -/
structure DtA (A : AR ι) (d : ι → List PyData) (n : Nat) : Prop where
  dp : ∀ {K : PySem.W.Frag} {H : Hp} {vs : List V} {x : ι}, A.r H vs x → DpAll K H vs (d x)
  lay : ∀ x, PyData.plainAll (d x) = true
  dep : ∀ x, PyData.depthAll (d x) ≤ n
  eq : ∀ x y, PyData.eqvAll (d x) (d y) = true ↔ x = y
/-! ### an item of a list cell -/
/-! ### {k: v for k in ks} -/
end
end Sim

/-! what a call gives is new: lists of dicts that are cleared later -/
namespace Sim
open PySem PySem.Spec PyProof.Rows L2 Evl
section
variable {K : PySem.W.Frag} {σ : L2.St} {G0 H0 G H G2 H2 W Gw Hw : Hp} {ls : List Addr} {cs cs0 : Cs} {l : Addr} {te : TE} {α β κ γ : Type} {R : Rep α} {S : Rep β} {D : Ends} {tz : TS}
end
section
variable {K : PySem.W.Frag} {σ : L2.St} {G0 H0 G H G2 H2 W : Hp} {ls : List Addr} {cs : Cs} {ta : TA} {α ι : Type} {R : Rep α} {A : AR ι}
end
end Sim

set_option maxHeartbeats 2000000
/-! name = {k: v for ..}: the name is set before the block goes -/
namespace L2
open PySem PySem.Spec PyProof.Rows
open PySem.Calls
section
variable {X : Cx}
end
end L2
namespace Sim
open PySem PySem.Spec PyProof.Rows L2 Evl SlX
section
variable {K : PySem.W.Frag} {C : Addr} {α : Type} {R : Rep α}
end
end Sim

/-! the hook over any choice of addresses; addresses reached, found by marks in one number (no dedup of lists) -/
namespace Sim
open PySem PySem.Spec PyProof.Rows L2 Evl LamX LamF NdefX
end Sim

set_option maxHeartbeats 2000000
/-! a method with defaults, called with all its arguments -/
namespace Sim
open PySem PySem.Spec PyProof.Rows L2 Evl
end Sim

set_option maxHeartbeats 2000000
/-! cells read as data by a call, and taken out of the data again behind it: what the call gave does not lean on them -/
namespace Sim
open PySem PySem.Spec PyProof.Rows L2 Evl SlX
section
variable {D : List Addr} {W Z G G0 H0 H : Hp} {ls : List Addr} {cs : Cs} {σ : L2.St} {te : TE} {α β : Type} {R : Rep α} {S : Rep β} {κ : Type}
/-! ### kinds of values -/
theorem Off.pd {x : α} (h : Off D W Z R x) : OffP D W Z (Sim.pd R x) := fun G v hZ hG r => h G v hZ hG r
/-- a value that is told only where a test holds -/
theorem E.guard {m : Option α} {g : α → Bool} (h : E te σ G W R m) : E te σ G W R (m >>= fun x => bif g x then some x else none) := fun z hz => by
  obtain ⟨x, hx, hz⟩ := bindS hz
  cases q : g x with
  | true =>
    rw [q] at hz
    cases hz
    exact h _ hx
  | false => rw [q] at hz; cases hz
end
end Sim

set_option maxHeartbeats 2000000
/-! an object that changes, with a list of its own: made, called, read -/
namespace Sim
open PySem PySem.Spec PyProof.Rows L2 Evl SlX
section
variable {K : PySem.W.Frag} {C C2 : Addr} {σ : L2.St} {G0 H0 G H G2 H2 W : Hp} {ls : List Addr} {cs : Cs} {l p : Addr} {ta : TA} {te : TE} {X : XK} {α β κ ι ρ : Type} {R : Rep α} {S : Rep β} {B : Rep κ} {A : AR ι} {D : Ends} {tz : TS} {ns : List Str}
section
variable {i j : Nat} {ps : List Pd} {ys : List κ}
end
end
end Sim

set_option maxHeartbeats 2000000
/-! dicts of data compared; tuples that may be a def's default; an object made with its default -/
namespace L2
open PySem PySem.Spec PyProof.Rows SlX
section
variable {K : PySem.W.Frag} {H : Hp}
end
end L2
namespace Sim
open PySem PySem.Spec PyProof.Rows L2 Evl SlX
section
variable {K : PySem.W.Frag} {C : Addr} {σ : L2.St} {G0 H0 G H G2 H2 W : Hp} {ls : List Addr} {cs : Cs} {l p : Addr} {ta : TA} {te tl : TE} {X : XK} {α β κ ι ρ : Type} {R : Rep α} {S : Rep β} {B : Rep κ} {A : AR ι} {D : Ends} {tz : TS} {ns : List Str}
/-! ### dicts of data -/
/-! ### tuples that may stand among a def's defaults -/
/-! ### a method with its default left out -/
end
end Sim

set_option maxHeartbeats 2000000
/-! objects told by some of their attributes; an object with three new lists of texts (an outlook) -/
namespace Sim
open PySem PySem.Spec PyProof.Rows L2 Evl SlX
section
variable {K : PySem.W.Frag} {C : Addr} {σ : L2.St} {G0 H0 G H G2 H2 W Z : Hp} {D : List Addr} {ls : List Addr} {cs : Cs} {l p x : Addr} {ta : TA} {te to : TE} {X : XK} {α β γ κ ι ρ : Type} {R : Rep α} {S : Rep β} {T : Rep γ} {A : AR ι} {ns all nw : List Str} {fl : α → List (Str × Pd)}
/-! ### all cells become data -/
/-! ### the outlook's shape -/
section
variable {α0 α1 : Type} {S0 : Rep α0} {S1 : Rep α1} {g0 : β → α0} {g1 g2 : β → α1} {u1 u2 u3 : β → List Str} {N : Addr → Prop} {f : ι → Option β} {mi : Option ι}
end

/-! ### a paper and a list of texts read as data -/
theorem Off.l2 {xs : List α} (hD : NotIt D W Z R) (hne : xs ≠ []) (ho : ∀ x ∈ xs, Off D W Z R x) : Off D W Z (rL R) xs := fun G v hZ hG ⟨a, vs, h1, h2, h3⟩ => by
  have hn : a ∉ D := fun z => by
    cases h3 with
    | nil => exact hne rfl
    | cons h t => exact hD a z _ (by rw [← hG a z]; exact h2) (List.mem_cons_self ..) hZ h
  have key : ∀ {vs : List V} {xs : List α}, Paired (R.r G) vs xs → (∀ x ∈ xs, Off D W Z R x) → Paired (R.r (rmL D G)) vs xs := by
    intro vs xs h
    induction h with
    | nil => intro _; exact .nil
    | cons h t ih => intro ho; exact .cons (ho _ (List.mem_cons_self ..) G _ hZ hG h) (ih fun x hx => ho x (List.mem_cons_of_mem _ hx))
  exact ⟨a, vs, h1, rm_of h2 hn, key h3 ho⟩
section
variable {q : Addr} {i j k : Nat} {C2 : Addr} {B : Rep κ} {ys : List κ} {xs : List Str} {ps : List Pd}
end
end
end Sim

set_option maxHeartbeats 4000000
/-! an __init__ whose first statement is super().__init__(..), with own captured names -/
namespace Sim
open PySem PySem.Spec PyProof.Rows L2 PySem.W PySem.Calls NdefX
structure NScopeC (N ps : List Str) (sc : Scope) : Prop where
  kind : sc.kind = .function
  co : sc.isCoroutine = false
  gen : sc.isGenerator = false
  nd : N.Nodup
  pre : N.take ps.length = ps
  par : ∀ x ∈ ps, sc.names.lookup x = some .local ∨ sc.names.lookup x = some .cell
  free : ∀ y ∈ sc.names, y.2 = .free → y.1 = ("__class__" : Str)
  nocls : ∀ y ∈ sc.names, y.1 = ("__class__" : Str) → y.2 ≠ .cell
section
variable {M : Model} {A : Around} {E : Value → Shared → Prop} {s₀ s : Shared} {m cm : Str → Option Value} {env : Env} {own : List (Str × Addr)}
end
section
variable {M : Model} {A : Around} {E : Value → Shared → Prop} {s : Shared}
end
section
variable {CX : CXT} {P : Program} {w : World} {K : Frag} {mg : Str → Option Value} {base : Heap} {N ps psg : List Str} {F : NF} {C D f g : Addr} {fd fdg : FuncData} {k : Nat} {sp spg : Sp} {e : Expr} {es : List Expr} {rest : List Stmt} {p0 p1 p2 p3 p4 : Pos} {pl : Sem Bool}
end
end Sim

set_option maxHeartbeats 2000000
/-! list(reversed(a list)) -/
namespace RT
open PySem PySem.Spec PyProof.Rows
section
variable {prog : Program} {w : World} {A : Around} {E : Value → Shared → Prop} {s : Shared}
end
section
variable {prog : Program} {w : World} {A : Around} {E : Value → Shared → Prop} {s : Shared}
end
end RT
namespace L2
open PySem PySem.Spec PyProof.Rows RT
section
variable {X : Cx}
end
end L2
namespace Sim
open PySem PySem.Spec PyProof.Rows L2 Evl SlX
section
variable {K : PySem.W.Frag} {σ : L2.St} {G H W : Hp} {te : TE} {α : Type} {R : Rep α}
end
end Sim

set_option maxHeartbeats 2000000
/-! a dict walked while it is locked; dicts read whether they are locked or not -/
namespace Sim
open PySem PySem.Spec PyProof.Rows L2 Evl SlX
section
variable {K : PySem.W.Frag} {C : Addr} {σ : L2.St} {G0 H0 G H G2 H2 W : Hp} {ls : List Addr} {cs : Cs} {l p a : Addr} {ta : TA} {te td ti tx : TE} {X : XK} {α β κ ι ρ : Type} {R : Rep α} {S : Rep β} {D : Ends} {tz : TS} {ns all : List Str} {kf : κ → Key} {od : Obj} {ws : List (Key × V)}
section
variable [DecidableEq κ]
end
/-! ### locking keeps what is known -/
end
end Sim

/-! a | b, a of an own class, b of one, too, or a function; pairs of classes; a lambda that asks -/
namespace PySem.W
open PySem PySem.Spec PyProof.Rows PySem.Calls
variable {prog : Program} {w : World} {A : Around} {E : Value → Shared → Prop} {s : Shared} {K : Frag} {x C L f : Addr} {h₀ : Heap} {m : Str → Option Value} {ox : Obj} {od : Option Obj} {T : String}
end PySem.W
namespace L2
open PySem PySem.Spec PyProof.Rows
structure OpFn (K : PySem.W.Frag) (C : Addr) (nm : String) (f : Addr) : Prop where
  sc : PySem.W.selfFirst K C = true
  at_ : PySem.W.findIn K (.ref C) (PySem.dunder nm) = some (some (.ref f))
  fn : PySem.W.isFn K (.ref f) = true
  nr : PySem.W.findIn K (.ref C) (dunderR nm) = some none
  t1 : PySem.W.findIn K (.type "function") (PySem.dunder nm) = some none
  t2 : PySem.W.findIn K (.type "function") (dunderR nm) = some none
  sub : PySem.W.subIn K (.type "function") (.ref C) = some false
section
variable {X : Cx} {CX : CXT} {k : Nat} {f C : Addr} {fd : FuncData} {ps : List Str} {sp : Sp} {pins : List (Addr × Obj)} {σ : St} {H : Hp} {s : Shared} {ta tb : TE}
end
end L2
namespace Sim
open PySem PySem.Spec PyProof.Rows L2 Evl LamX LamF NdefX
section
variable {δ γ : Type} {cn : List Str} {nm : String} {D : Str} {K : PySem.W.Frag} {S : Rep δ} {T : Rep γ} {ob : δ → Bool} {σ : L2.St} {G W : Hp} {ta tb te : TE} {ma mb m : Option δ}
end
/-! ### one of two kinds -/
/-! ### lambda ask: ask(nm), as a side -/
section
variable {P : Program} {w : World} {K : PySem.W.Frag} {mg : Str → Option Value} {base : Heap} {fr ps N : List Str} {f : Addr} {F : LF} {G : Hp}
end
end Sim

/-! a dict lent to a making; a reading that may raise where nothing is raised -/
namespace Sim
open PySem PySem.Spec PyProof.Rows L2 Evl LamX LamF NdefX
section
variable {σ : L2.St} {G0 H0 G H G1 H1 W : Hp} {ls : List Addr} {cs : Cs} {l : Addr} {cp0 : CP} {te : TE} {α β ι κ : Type} {R : Rep α} {cp : β → CP} {C : Addr} {A : AR ι} {ns : List Str} {K : PySem.W.Frag} {T : Rep β}
end
end Sim

/-! dict(x), x a list (or a plain tuple) of pairs -/
namespace L2
open PySem PySem.Spec PyProof.Rows
section
variable {X : Cx} {pins : List (Addr × Obj)} {σ : St} {H : Hp} {s : Shared}
end
end L2
namespace Sim
open PySem PySem.Spec PyProof.Rows L2 Evl
section
variable {σ : L2.St} {G0 H0 G H W : Hp} {ls : List Addr} {cs : Cs} {l : Addr} {te : TE} {κ α : Type} [DecidableEq κ] {kf : κ → Key} {Sk : Rep κ} {R : Rep α} {K : PySem.W.Frag}
end
end Sim

/-! sides that are called with an asker whose list of asks is known -/
namespace Sim
open PySem PySem.Spec PyProof.Rows L2 Evl LamX LamF NdefX
section
variable (P : Program) (w : World) (K : PySem.W.Frag) (mg : Str → Option Value) (base : Heap) (j : Nat)
end
section
variable {P : Program} {w : World} {K : PySem.W.Frag} {mg : Str → Option Value} {base : Heap} {j k kk : Nat} {ω : Type} {G0 H0 G H G2 H2 : Hp} {ls : List Addr} {cs : Cs} {f f0 fk C la : Addr} {rO : Rep ω} {σ : L2.St} {fd : FuncData} {ps : List Str}
variable {sem : AskQ → ω → Ql → Option ((Xn ⊕ Int) × Ql)}
end
end Sim

/-! a comprehension that asks; the truth of a list -/
namespace Sim
open PySem PySem.Spec PyProof.Rows L2 Evl LamX LamF NdefX
section
variable {α γ κ : Type} {R : Rep α} {T : Rep γ} {K : PySem.W.Frag} {σ : L2.St} {G0 H0 G H W : Hp} {ls : List Addr} {cs : Cs} {tl te : TE} {j : Nat} {Q : VK}
end
end Sim

/-! a thing asked within a comprehension; slotted objects below laid cells -/
namespace LamF
open PySem PySem.Spec PyProof.Rows L2
end LamF
namespace Sim
open PySem PySem.Spec PyProof.Rows L2 Evl LamX LamF NdefX
section
variable {P : Program} {w : World} {K : PySem.W.Frag} {mg : Str → Option Value} {base : Heap} {σ : L2.St} {k : Nat} {G0 H0 G H G2 H2 : Hp} {ls : List Addr} {cs : Cs} {f : Addr}
end
instance {α : Type} {R : Rep α} [Dn R] : Dn (rO R) := ⟨fun {_ _ _ x} hl h => by
  cases x with
  | none => exact h
  | some x => exact Dn.dn (R := R) hl h⟩
end Sim

set_option maxHeartbeats 4000000
/-! super().m(..) at any place of an own class's def -/
namespace Sim
open PySem PySem.Spec PyProof.Rows L2 PySem.W PySem.Calls NdefX
/-- of an expression, statements: at this activation -/
structure PEz (X : Cx) (c : Code) (e : Expr) (t : TE) : Prop where
  run : ∀ (pins : List (Addr × Obj)) (s : Shared) (σ : L2.St) (H : Hp) (Q : VK), L2.Inv X pins σ H s → t σ H Q → _root_.PySem.wpAt (model X.prog X.w) X.A c (eval e X.env) (EP X pins σ Q) X.xe s
structure PSz (X : Cx) (c : Code) (st : List Stmt) (t : TS) : Prop where
  run : ∀ (pins : List (Addr × Obj)) (s : Shared) (σ : L2.St) (H : Hp) (D : Ends), L2.Inv X pins σ H s → t D σ H → _root_.PySem.wpAt (model X.prog X.w) X.A c (execs st X.env) (SP X pins D) X.xe s
section
variable {X : Cx} {c : Code} {st : Stmt} {rest : List Stmt} {t u : TS} {te : TE} {e : Expr}
end
section
variable {CX CX1 : CXT} {P : Program} {w : World} {K : Frag} {mg : Str → Option Value} {base : Heap} {N ps psg : List Str} {F : NF} {C D f g : Addr} {fd fdg : FuncData} {k : Nat} {sp spg : Sp} {e : Expr} {es : List Expr} {nm : Str} {p0 p1 p2 p3 : Pos} {pl : Sem Bool} {A : Around} {outer : List Env} {s0 : Shared} {H0 : Hp} {E : XK} {c : Code} {ta : TA}
end
end Sim

/-! list.extend by a list of data -/
namespace Sim
open PySem PySem.Spec PyProof.Rows L2 Evl
section
variable {σ : L2.St} {G0 H0 G H : Hp} {ls : List Addr} {cs : Cs} {l : Addr} {te : TE} {tz : TS} {D : Ends} {α : Type} {R : Rep α} {K : PySem.W.Frag}
end
end Sim

/-! an object made with a lent list and with effects in its arguments -/
namespace Sim
open PySem L2 Evl
section
variable {K : PySem.W.Frag} {C : Addr} {σ : L2.St} {G0 H0 G H : Hp} {ls : List Addr} {cs : Cs} {l : Addr} {X : XK} {Q : VK} {α ι κ : Type} {A : AR ι}
end
end Sim

/-! a tuple whose object is told (no dict of its own): tuple(list) makes one, dict(tuple) reads it -/
namespace L2
open PySem PySem.Spec PyProof.Rows
section
variable {X : Cx} {pins : List (Addr × Obj)} {σ : St} {H : Hp} {s : Shared}
end
end L2
namespace Sim
open PySem PySem.Spec PyProof.Rows L2 Evl
section
variable {σ : L2.St} {G0 H0 G H W : Hp} {ls : List Addr} {cs : Cs} {l : Addr} {te : TE} {κ α : Type} [DecidableEq κ] {kf : κ → Key} {Sk : Rep κ} {R : Rep α} {K : PySem.W.Frag}
/-- a tuple, told -/
def rTd (R : Rep α) : Rep (List α) := ⟨fun H v xs => ∃ a vs o, v = .ref a ∧ H a = some (.frz o (.tup vs)) ∧ o.dict = none ∧ Paired (R.r H) vs xs, fun e ⟨a, vs, o, h1, h2, h3, h4⟩ => ⟨a, vs, o, h1, e _ _ h2, h3, Paired.mapP h4 fun _ _ => R.mono e⟩⟩
end
end Sim

/-! a generator def called with keywords -/
namespace L2
open PySem PySem.Spec PyProof.Rows
section
variable {X : Cx} {k n : Nat} {f : Addr} {fd : FuncData} {ps ks : List Str} {sp : SpG} {E : XK} {x : Str} {p pos : Pos} {e : Expr} {es : List Expr} {kws : List Keyword} {t tk : TA} {g : List Value → List Value → List Value} {gV : List V → List V → List V}
end
end L2

/-! generators: if; the walk's lemmas; their promise -/
namespace L2
open PySem PySem.Spec PyProof.Rows GenW
end L2
namespace Sim
open PySem PySem.Spec PyProof.Rows L2 Evl
section
variable {K : PySem.W.Frag} {σ : L2.St} {G0 H0 G H G2 H2 W : Hp} {ls : List Addr} {cs : Cs} {l : Addr} {ta tb te tc : TE} {t : TT} {α β γ ι κ : Type} {R : Rep α} {S : Rep β} {A : AR ι} {D : GEnds} {ys : List V} {tu tv u : TGn}
theorem sz_lt {n : Nat} (h : sz n = true) : n < sizeLine := sz_l h
end
section
variable {K : PySem.W.Frag} {C : Addr} {σ : L2.St} {G0 H0 G H G2 H2 : Hp} {ls : List Addr} {cs : Cs} {X : XK} {α κ ι : Type} {A : AR ι} {B : Rep κ} {ns : List Str}
end
end Sim

/-! a != b of an own class that has __eq__ alone -/
namespace L2
open PySem PySem.Spec PyProof.Rows
section
variable {X : Cx} {k : Nat} {f C : Addr} {fd : FuncData} {ps : List Str} {sp : Sp}
end
end L2
namespace Sim
open PySem PySem.Spec PyProof.Rows L2 Evl
end Sim

/-! told tuples: read in one way, and they stay below laid cells -/
namespace Sim
open PySem PySem.Spec PyProof.Rows L2 Evl
instance {α : Type} {R : Rep α} [Dn R] : Dn (rTd R) := ⟨fun hl ⟨a, vs, o, h1, h2, ho, h3⟩ => ⟨a, vs, o, h1, dn_at hl (fun _ z => by cases z) h2, ho, Paired.mapP h3 fun _ _ => Dn.dn hl⟩⟩
end Sim

/-! a, b = x, y; a pair of new dicts that a call gave, cleared later -/
namespace Sim
open PySem PySem.Spec PyProof.Rows L2 Evl
section
variable {K : PySem.W.Frag} {σ : L2.St} {G0 H0 G H G2 H2 W Gw Hw : Hp} {ls : List Addr} {cs cs0 : Cs} {l : Addr} {ta : TA} {α β κ ι : Type} {R : Rep α} {S : Rep β} {A : AR ι} {D : Ends} {tz : TS}
end
end Sim

/-! sorted(xs), xs a list of data that are alike -/
namespace Sim
open PySem PySem.Spec PySem.W PyProof.Rows L2 Evl
section
variable {K : PySem.W.Frag} {α : Type} {R : Rep α}
end
/-! ### what is alike -/
end Sim

/-! calls with keywords that may raise; a generator drained that may raise; a loop over a call that may raise -/
namespace L2
open PySem PySem.Spec PyProof.Rows
section
variable {X : Cx} {CX : CXT} {k n : Nat} {f : Addr} {fd : FuncData} {ps ks : List Str} {sp : Sp} {E : St → XK} {x : Str} {p pos : Pos} {e : Expr} {es : List Expr} {kws : List Keyword} {t tk : TA} {g : List Value → List Value → List Value} {gV : List V → List V → List V}
end
end L2
namespace Sim
open PySem PySem.Spec PyProof.Rows L2 Evl
section
variable {K : PySem.W.Frag} {σ : L2.St} {G0 H0 G H G2 H2 W : Hp} {ls : List Addr} {cs : Cs} {te : TE} {ta tk : TA} {α γ ι κ δ : Type} {R : Rep α} {T : Rep γ} {A : AR ι} {A2 : AR δ} {B : AR κ} {D : Ends} {n m' : Nat}
end
section
variable {K : PySem.W.Frag} {σ : L2.St} {G0 H0 G H G2 H2 W : Hp} {te : TE} {α β γ : Type} {R : Rep α} {S : Rep β} {T : Rep γ}
end
section
open PySem PySem.Spec PyProof.Rows L2 Evl LamX LamF NdefX
/-- tuples of several things stay below laid cells -/
class DnAr {ι : Type} (A : AR ι) : Prop where
  dn : ∀ {G : Hp} {cs : List (Addr × Obj)} {vs : List V} {x : ι}, (∀ c o, cs.lookup c = some o → G c = some (CelO o)) → A.r G vs x → A.r (unlayH cs G) vs x
instance : DnAr aN := ⟨fun _ h => h⟩
instance {α ι : Type} {R : Rep α} {A : AR ι} [Dn R] [DnAr A] : DnAr (aC R A) := ⟨fun hl ⟨v, ws, h1, h2, h3⟩ => ⟨v, ws, h1, Dn.dn hl h2, DnAr.dn hl h3⟩⟩
instance {ι : Type} {A : AR ι} [DnAr A] : Dn (rTup A) := ⟨fun hl ⟨a, vs, h1, h2, h3⟩ => ⟨a, vs, h1, dn_at hl (fun _ z => by cases z) h2, DnAr.dn hl h3⟩⟩
end
end Sim

/-! a changing object's method in an expression; a list of three new lists, written and cleared -/
namespace Sim
open PySem PySem.Spec PyProof.Rows L2 Evl SlX
section
variable {K : PySem.W.Frag} {C C2 : Addr} {σ : L2.St} {G0 H0 G H G2 H2 W : Hp} {ls : List Addr} {cs : Cs} {l p : Addr} {ta : TA} {te : TE} {X : XK} {α β κ ι ρ : Type} {R : Rep α} {S : Rep β} {B : Rep κ} {A : AR ι} {D : Ends} {tz : TS} {ns : List Str}
end
section
variable {K : PySem.W.Frag} {σ : L2.St} {G0 H0 G H G2 H2 W Gw Hw : Hp} {ls : List Addr} {cs cs0 : Cs} {l : Addr} {te t1 t2 t3 : TE} {ta : TA} {α β γ ι : Type} {R : Rep α} {R1 : Rep α} {R2 : Rep β} {R3 : Rep γ} {A : AR ι} {D : Ends} {tz : TS}
end
end Sim

/-! all cells read as data: a call that gives a number, a text or a truth value -/
namespace Sim
open PySem PySem.Spec PyProof.Rows L2 Evl
section
variable {K : PySem.W.Frag} {σ : L2.St} {G0 H0 G H : Hp} {ls : List Addr} {cs : Cs} {l p : Addr} {C : Addr} {ns : List String} {α β κ : Type} {B : Rep κ} {S : Rep β} {R : Rep α} {i j : Nat} {te : TE}
theorem all_at (w : Wo G0 H0 ls G H cs) {c : Addr × CP} (h : cs[i]? = some c) {o : HO} (ho : H c.1 = some o) : adL (cs.map (·.1)) H G c.1 = some o := by
  unfold adL
  rw [if_pos (List.mem_map.mpr ⟨c, List.mem_of_getElem? h, rfl⟩)]
  exact ho
end
end Sim

/-! a list lent to a def that gives a new list; lent to the making of an object with a list -/
namespace Sim
open PySem PySem.Spec PyProof.Rows L2 Evl SlX
section
variable {K : PySem.W.Frag} {C C2 : Addr} {σ : L2.St} {G0 H0 G H G2 H2 W : Hp} {ls : List Addr} {cs : Cs} {l p : Addr} {ta : TA} {te : TE} {X : XK} {α β κ ι ρ : Type} {R : Rep α} {S : Rep β} {B : Rep κ} {A : AR ι} {D : Ends} {tz : TS} {ns : List Str}
end
section
variable {K : PySem.W.Frag} {σ : L2.St} {G W : Hp} {l : Addr} {κ γ ι : Type} {T : Rep γ} {A : AR ι}
end
end Sim

/-! a static method with a star parameter -/
namespace L2
open PySem PySem.Spec PyProof.Rows
section
variable {X : Cx} {CX : CXT} {k : Nat} {f C p : Addr} {fd : FuncData} {ps : List Str} {sp : Sp} {E : St → XK} {x m : Str} {pos apos : Pos} {e o : Expr} {es : List Expr} {ta : TE} {t : TA}
variable {Ec : XK}
end
end L2
namespace Sim
open PySem PySem.Spec PyProof.Rows L2 Evl
section
variable {K : PySem.W.Frag} {σ : L2.St} {G H W : Hp} {ta t1 tr : TA} {te : TE} {α β γ : Type} {R : Rep α} {S : Rep β} {T : Rep γ} {C : Addr} {n : Nat}
end
end Sim

set_option maxHeartbeats 1000000
/-! a for over a generator: while the generator sleeps its consumer's frame changes. The context's s_0 is a ghost: made anew at each wake. -/
namespace GenF
open PySem PySem.Spec PyProof.Rows L2 GenW

section
variable {q : Gq} {s0 s1 : Shared} {H0 H1 : Hp}
end

/-- while it sleeps -/
structure Slept (q : Gq) (H : Hp) (v : Value) (s s' : Shared) : Prop where
  os : s'.os = s.os
  keep : ∀ b o, b ≠ q.L → s.heap.get? b = some o → s'.heap.get? b = some o
  env0 : Env0 q.P q.w q.K q.mg q.base q.A q.outer s' H
  rec_ : ∀ us, q.Rec s.heap us → q.Rec s'.heap (us ++ [v])
section
variable {q : Gq} {ip : List (Addr × Obj)} {s₀ s s' : Shared} {ys : List V} {σ : L2.St} {H H0 : Hp} {s0 : Shared} {x : V} {v : Value}
end

/-! ### the protocol, statements -/
def GY (q : Gq) : Protocol := fun n s₀ v s kap =>
  ∃ ys x ip σ H, n + 1 + ys.length = sizeLine ∧ RelV x v ∧ GI q ip s₀ ys σ H s ∧ ∀ s', Slept q H v s s' → kap (.send .none) s'
def XEx (q : Gq) (s₀ : Shared) (e : Value) (s : Shared) : Prop := ∃ ys s0 H0, Gh q s₀ ys s0 H0 ∧ (q.cx s0 H0).xe e s
def GSP (q : Gq) (ip : List (Addr × Obj)) (s₀ : Shared) (D : GEnds) (ys : List V) (f : Flow) (s : Shared) : Prop :=
  match f with
  | .next => ∃ σ H, GI q ip s₀ ys σ H s ∧ D.nx ys σ H
  | .brk => ∃ σ H, GI q ip s₀ ys σ H s ∧ D.bk ys σ H
  | .cont => ∃ σ H, GI q ip s₀ ys σ H s ∧ D.ct ys σ H
  | .ret u => ∃ v σ H, GI q ip s₀ ys σ H s ∧ RelV v u ∧ D.rt ys v H
structure GC (q : Gq) (c : Code) (fs : List Frame) (gd : Bool → Bool) : Prop where
  ok : GqOk q
  over : q.A.over c fs = q.A.deeper q.env
  split : splitAtGen fs = none
  guard : fs.any Frame.guarded = false
  gd : gd false = false
structure GK (q : Gq) (ip : List (Addr × Obj)) (R : GenEnd) (c : Code) (fs : List Frame) (K : Flow → Sem PySem.Fin) (J : Value → Sem PySem.Fin) (D : GEnds) : Prop where
  ok : ∀ (n : Nat) (ys : List V) (s₀ s : Shared) (f : Flow), n + ys.length = sizeLine → GSP q ip s₀ D ys f s → Seg (model q.P q.w) q.A R (GY q) n s₀ c (K f) fs s
  exc : ∀ (n : Nat) (s₀ : Shared) (e : Value) (s : Shared), XEx q s₀ e s → Seg (model q.P q.w) q.A R (GY q) n s₀ c (J e) fs s
structure GS (q : Gq) (st : Stmt) (t : TGn) : Prop where
  run : ∀ (ip : List (Addr × Obj)) (R : GenEnd) (n : Nat) (ys : List V) (s₀ : Shared) (c : Code) (fs : List Frame) (K : Flow → Sem PySem.Fin) (J : Value → Sem PySem.Fin) (gd : Bool → Bool) (lv : List Value → List Value) (s : Shared) (σ : L2.St) (H : Hp) (D : GEnds),
    GC q c fs gd → n + ys.length = sizeLine → GK q ip R c fs K J D → GI q ip s₀ ys σ H s → t D ys σ H →
    Seg (model q.P q.w) q.A R (GY q) n s₀ c ((exec st q.env).wrap K J gd lv) fs s
structure GSs (q : Gq) (st : List Stmt) (t : TGn) : Prop where
  run : ∀ (ip : List (Addr × Obj)) (R : GenEnd) (n : Nat) (ys : List V) (s₀ : Shared) (c : Code) (fs : List Frame) (K : Flow → Sem PySem.Fin) (J : Value → Sem PySem.Fin) (gd : Bool → Bool) (lv : List Value → List Value) (s : Shared) (σ : L2.St) (H : Hp) (D : GEnds),
    GC q c fs gd → n + ys.length = sizeLine → GK q ip R c fs K J D → GI q ip s₀ ys σ H s → t D ys σ H →
    Seg (model q.P q.w) q.A R (GY q) n s₀ c ((execs st q.env).wrap K J gd lv) fs s
section
variable {q : Gq} {st : Stmt} {rest : List Stmt} {e : Expr} {yp pos : Pos} {te : TE}
/-! ### while -/
end
end GenF

set_option maxHeartbeats 1000000
/-! a generator def's promise to a for; the for that keeps the last item -/
namespace GenF
open PySem PySem.Spec PyProof.Rows L2 GenW

/-- told of L's object whatever its slots -/
def RecOk (L : Addr) (Rec : Heap → List Value → Prop) : Prop := ∀ (h h' : Heap) us, (∀ o, h.get? L = some o → ∃ sl, h'.get? L = some { o with slots := sl }) → Rec h us → Rec h' us
structure SleptX (P : Program) (w : World) (K : PySem.W.Frag) (mg : Str → Option Value) (base : Heap) (A : Around) (outer : List Env) (L : Addr) (Rec : Heap → List Value → Prop) (H : Hp) (v : Value) (s s' : Shared) : Prop where
  os : s'.os = s.os
  keep : ∀ b o, b ≠ L → s.heap.get? b = some o → s'.heap.get? b = some o
  env0 : Env0 P w K mg base A outer s' H
  rec_ : ∀ us, Rec s.heap us → Rec s'.heap (us ++ [v])
def REnd (P : Program) (w : World) (outer : List Env) (H : Hp) (s : Shared) (L : Addr) (Rec : Heap → List Value → Prop) (a : Addr) (g : Nat) (Q : List V → Hp → Prop) (E : XK) : GenEnd := fun n s₀ r s1 =>
  ((r = .ok (.ret .none) ∨ r = .ok .next) ∧ ∃ ys H', n + ys.length = sizeLine ∧ Out P w outer H s L Rec s₀ ys H' s1 ∧ Q ys H') ∨
  ∃ e, r = .error e ∧ s1.heap.IsGen a g ∧ ∃ s0 H0, CX P w outer H0 s0 E e s1
def YItem (P : Program) (w : World) (K : PySem.W.Frag) (mg : Str → Option Value) (base : Heap) (A : Around) (outer : List Env) (H : Hp) (s : Shared) (L : Addr) (Rec : Heap → List Value → Prop) (a : Addr) (g : Nat) : Protocol := fun n s₀ v s1 kap =>
  ∃ ys x H1, n + 1 + ys.length = sizeLine ∧ RelV x v ∧ Out P w outer H s L Rec s₀ ys H1 s1 ∧ s1.heap.NoLimit ∧ s1.heap.IsGen a g ∧ ∀ s', SleptX P w K mg base A outer L Rec H1 v s1 s' → kap (.send .none) s'
/-- what a call of a generator def gives -/
def GMade (P : Program) (w : World) (K : PySem.W.Frag) (mg : Str → Option Value) (base : Heap) (k : Nat) (outer : List Env) (H : Hp) (s : Shared) (Q : List V → Hp → Prop) (E : XK) (u : Value) (s' : Shared) : Prop :=
  ∃ (a : Addr) (g : Nat) (c : Code), u = .ref a ∧ s.heap.objs.size ≤ a ∧ a < s'.heap.objs.size ∧ s'.heap.IsGen a g ∧ s'.gens[g]? = some (.fresh c) ∧ s'.os = s.os ∧ AllBare s'.gens ∧ s'.heap.NoLimit ∧ (∀ b o, s.heap.get? b = some o → s'.heap.get? b = some o) ∧
    ∀ (A : Around) (L : Addr) (Rec : Heap → List Value → Prop) (s2 : Shared), Room k A → A.frames = some outer → L ∈ frs outer → RecOk L Rec → Rec s2.heap [] → (∀ b o, s'.heap.get? b = some o → s2.heap.get? b = some o) → s2.os = s.os → AllBare s2.gens →
      Seg (model P w) A (REnd P w outer H s L Rec a g Q E) (YItem P w K mg base A outer H s L Rec a g) sizeLine s2 c ((model P w).den c) [] s2
structure GFn (P : Program) (w : World) (K : PySem.W.Frag) (mg : Str → Option Value) (base : Heap) (k : Nat) (f : Addr) (fd : FuncData) (ps : List Str) (sp : SpG) : Prop where
  len : ∀ vs H Q E, sp vs H Q E → vs.length = ps.length
  run : ∀ (A : Around) (outer : List Env) (s : Shared) (H : Hp) (args : Args) (us : List Value) (vs : List V) (Q : List V → Hp → Prop) (E : XK), Room k A → Env0 P w K mg base A outer s H → BindsTo s fd args (ps.zip us) → Vals vs us → sp vs H Q E →
    codeAny (model P w) A (.call (.ref f) args) (fun r s' => match r with | .ok (.ret u) => GMade P w K mg base k outer H s Q E u s' | _ => False) s
section
variable {q : Gq} {ip : List (Addr × Obj)} {s₀ s s' : Shared} {ys : List V} {σ : L2.St} {H : Hp}
end
end GenF

set_option maxHeartbeats 1000000
/-! for x in g(..): y = x -/
namespace GenF
open PySem PySem.Spec PyProof.Rows L2 GenW

theorem ns_slots {h h' : Heap} {L : Addr} {m : Str → Option Value} (k : ∀ o, h.get? L = some o → ∃ sl, h'.get? L = some { o with slots := sl }) (x : h.Ns L m) : h'.Ns L m := by
  obtain ⟨o, es, ep, ho, r⟩ := x
  obtain ⟨sl, e⟩ := k o ho
  exact ⟨_, es, ep, e, r⟩
section
variable {X : Cx} {pins : List (Addr × Obj)} {σ : L2.St} {H H1 : Hp} {s sc : Shared}
/-- the consumer's frame holds behind the generator's turn -/
theorem back {s₀ s1 : Shared} {σw : L2.St} {Hw H' : Hp} {Rec : Heap → List Value → Prop} {ys : List V} (hst : X.stack = X.env :: X.outer) (hfr : X.env.frame = some X.env.locals) (hcl : ∀ x c, X.env.cells.lookup x = some c → False)
    (I1 : Inv X pins σ H1 sc) (Iw : Inv X pins σw Hw s₀) (o : Out X.prog X.w X.stack H1 sc X.env.locals Rec s₀ ys H' s1) : Inv X pins σw H' s1 := by
  have hfs : frs X.stack = X.env.locals :: X.fs := by
    rw [hst]
    unfold frs
    rw [List.filterMap_cons, hfr]
    rfl
  have neL : ∀ b ob, X.s_0.heap.get? b = some ob → b ≠ X.env.locals := fun b ob e => Nat.ne_of_lt (Nat.lt_of_lt_of_le (Heap.lt_size e) I1.ok.above)
  have nex : ∀ b, b ≠ X.env.locals → b ∉ [X.env.locals] := fun b h z => h (List.mem_singleton.mp z)
  have nfs : ∀ b, b ≠ X.env.locals → b ∉ X.fs → b ∉ frs X.stack := fun b h h2 z => by
    rw [hfs] at z
    exact (List.mem_cons.mp z).elim h h2
  refine ⟨I1.ok, o.os.trans I1.os, o.bare, ⟨fun b ob e n hb hx => ?_, fun b ob e n hb hx => ?_, fun b ob e n hx => ?_, fun b ob e hx => ?_, fun b xs e => o.un.tups b xs (I1.base.tups b xs e), fun b ob xs e => o.un.frzs b ob xs (I1.base.frzs b ob xs e), fun b ps e => ?_⟩, ?_, fun x c e => (hcl x c e).elim, o.nL, fun x c e => (hcl x c e).elim, fun p hp => ?_, o.hok, Iw.len⟩
  · exact o.un.keep b ob (I1.base.keep b ob e n hb hx) (I1.base.free b ob e n hx) (nfs b (neL b ob e) hb) (nex b (neL b ob e))
  · obtain ⟨sl, e1⟩ := I1.base.slot b ob e n hb hx
    obtain ⟨sl', e2⟩ := o.un.any e1 (I1.base.free b ob e n hx) (nex b (neL b ob e))
    exact ⟨sl', e2⟩
  · obtain ⟨o', e1⟩ := I1.base.there b ob e hx
    exact o.un.free b o' e1 (I1.base.free b ob e n hx) (nex b (neL b ob e))
  · obtain ⟨o', e1⟩ := I1.base.there b ob e hx
    exact o.un.there b o' e1 (nex b (neL b ob e))
  · obtain ⟨m1, e1⟩ := I1.base.tbls b ps e
    obtain ⟨m2, e2⟩ := o.un.tbls b _ e1
    exact ⟨m1 ++ m2, by rw [e2, Array.append_assoc]⟩
  · obtain ⟨m, hn, hl⟩ := Iw.loc
    refine ⟨m, ns_slots o.slot hn, fun i x v e1 e2 e3 => ?_⟩
    obtain ⟨u, r, l⟩ := hl i x v e1 e2 e3
    refine ⟨u, r, ?_⟩
    rcases l with l | ⟨_, c, e, _⟩
    · exact .inl l
    · exact (hcl x c e).elim
  · obtain ⟨e, n, ne, nf, d⟩ := I1.pin p hp
    exact ⟨o.un.keep p.1 p.2 e n (nfs p.1 ne nf) (nex p.1 ne), o.un.free p.1 p.2 e n (nex p.1 ne), ne, nf, d⟩
end
/-! ### the call -/
structure PGen (X : Cx) (k : Nat) (e : Expr) (tg : TGen) (E : XK) : Prop where
  run : ∀ (pins : List (Addr × Obj)) (s : Shared) (σ : L2.St) (H : Hp) (cont : List V → Hp → Prop), Inv X pins σ H s → tg σ H cont → wpAny (model X.prog X.w) X.A (eval e X.env)
    (fun u s' => ∃ H1 sc, Inv X pins σ H1 sc ∧ GMade X.prog X.w X.K X.mg X.base k X.stack H1 sc cont E u s') X.xe s
section
variable {X : Cx} {k : Nat} {f : Addr} {fd : FuncData} {ps : List Str} {sp : SpG} {dvs : List V} {ds : List Value} {x : Str} {p pos' : Pos} {E : XK}
/-! ### the loop -/
end
end GenF

/-! a for over a generator, told by data -/
namespace Sim
open PySem PySem.Spec PyProof.Rows L2 Evl
section
variable {K : PySem.W.Frag} {σ : L2.St} {G0 H0 G H : Hp} {ls : List Addr} {cs : Cs} {ta : TA} {α ι : Type} {R : Rep α} {A : AR ι} {D : Ends} {tz : TS}
end
end Sim

/-! f(.., lambda n: d[n]): the function asks a table, no state -/
namespace Sim
open PySem PySem.Spec PyProof.Rows L2 Evl LamX LamF NdefX
section
variable {P : Program} {w : World} {K : PySem.W.Frag} {mg : Str → Option Value} {base : Heap} {kk : Nat} {G G' : Hp} {f : Addr} {F : LF} {fr N : List Str} {vt : V} {tbl : List (Str × Int)} {x0 y0 : Str}
end
section
variable {X : Cx} {kk : Nat} {σ : L2.St} {G0 H0 G H : Hp} {ls : List Addr} {cs : Cs} {ta : TA} {ι α γ : Type} {A : AR ι} {R : Rep γ} {Q : VK}
end
end Sim

set_option maxHeartbeats 2000000
/-! a method that gives a new object that changes -/
namespace Sim
open PySem PySem.Spec PyProof.Rows L2 Evl SlX
section
variable {K : PySem.W.Frag} {C C2 : Addr} {σ : L2.St} {G0 H0 G H G2 H2 W : Hp} {ls : List Addr} {cs : Cs} {l p : Addr} {ta : TA} {to : TE} {X : XK} {α β κ ι ρ : Type} {R : Rep α} {S : Rep ρ} {B : Rep κ} {A : AR ι} {D : Ends} {tz : TS} {ns ns2 : List Str}
end
end Sim

/-! tuples of several unlike parts: their length -/
namespace Sim
open PySem PySem.Spec PyProof.Rows L2 Evl
instance {ι : Type} {g : ι → List PyData} : NoN (fun x : ι => PyData.tuple (g x)) := ⟨fun x => ⟨by simp [PyData.eqv], by simp [PyData.eqv]⟩⟩
end Sim

/-! tuples of several unlike parts: their length -/
namespace Sim
open PySem PySem.Spec PyProof.Rows L2 Evl
section
variable {K : PySem.W.Frag} {C C2 : Addr} {σ : L2.St} {G0 H0 G H G2 H2 W : Hp} {ls : List Addr} {cs : Cs} {l p : Addr} {ta : TA} {te : TE} {X : XK} {α β κ ι ρ : Type} {R : Rep α} {S : Rep β} {B : Rep κ} {A : AR ι} {ns : List Str}
end
end Sim

/-! an exception class without an own __init__: raised, and nothing else; a def called with its defaults -/
namespace Sim
open PySem PySem.Spec PyProof.Rows L2 Evl
section
variable {P : Program} {w : World} {K : PySem.W.Frag} {mg : Str → Option Value} {base : Heap}
end
end Sim

/-! a field of what a call gave -/
namespace Sim
open PySem PySem.Spec PyProof.Rows L2 Evl SlX
section
variable {K : PySem.W.Frag} {σ : L2.St} {G0 H0 G H : Hp} {ls : List Addr} {cs : Cs} {to : TE} {α β : Type} {S : Rep β} {C : Addr} {fl : α → List (Nat × Pd)} {Q : VK}
end
end Sim

set_option maxHeartbeats 2000000
/-! try: suite / finally: suite (the first one falls through or raises) -/
namespace L2
open PySem PySem.Spec PyProof.Rows
section
variable {X : Cx} {body : List Stmt} {f₀ : Stmt} {fs : List Stmt} {pos : Pos} {tb : WX → TS} {tf tfs : TS} {Wout : WX}
end
end L2

set_option maxHeartbeats 2000000
/-! groups of cells, lent or changed: what a method of an object with several parts that change promises -/
namespace Sim
open PySem PySem.Spec PyProof.Rows L2 Evl SlX
section
variable {K : PySem.W.Frag} {σ : L2.St} {G0 H0 G H G1 H1 G2 H2 W : Hp} {ls : List Addr} {cs cs0 : Cs} {l p C : Addr} {te ti tv : TE} {ta : TA} {α β γ κ ι ρ : Type} {R : Rep γ} {S : Rep β} {T : Rep γ} {B : Rep κ} {A : AR ι} {D : Ends} {tz : TS} {ns : List Str} {X : XK} {Q : VK}
/-! ### lent -/
/-! ### all of them read as data -/
/-! ### promises -/
variable {pa : α → Addr} {ci : α → ρ → Cs} {a : α} {r r' : ρ} {j : Nat} {ps : List Pd} {mi : Option ι} {i : ι} {me : Str}
/-! ### opened -/
/-! ### steps -/
end
end Sim

set_option maxHeartbeats 2000000
/-! sides that answer at any level of the thing asked -/
namespace Sim
open PySem PySem.Spec PyProof.Rows L2 Evl LamX LamF NdefX
section
variable (P : Program) (w : World) (K : PySem.W.Frag) (mg : Str → Option Value) (base : Heap)
end
end Sim

set_option maxHeartbeats 2000000
/-! more steps for objects with several parts that change -/
namespace Sim
open PySem PySem.Spec PyProof.Rows L2 Evl SlX
section
variable {K : PySem.W.Frag} {σ : L2.St} {G0 H0 G H G1 H1 G2 H2 W : Hp} {ls : List Addr} {cs cs0 cs2 : Cs} {l p C : Addr} {te ti tv : TE} {ta : TA} {α β γ κ ι ρ : Type} {R : Rep γ} {S : Rep β} {T : Rep γ} {B : Rep κ} {A : AR ι} {D : Ends} {tz tu : TS} {ns : List Str} {X : XK} {Q : VK} {g : TG}
end
end Sim

set_option maxHeartbeats 2000000
/-! a thing asked whose answering changes a group of cells -/
namespace Sim
open PySem PySem.Spec PyProof.Rows L2 Evl SlX LamX LamF NdefX
section
variable {P : Program} {w : World} {K : PySem.W.Frag} {mg : Str → Option Value} {base : Heap} {kl : Nat} {σ : L2.St} {G0 H0 G H G1 H1 G2 H2 W : Hp} {ls : List Addr} {cs cs0 cs2 : Cs} {l p C : Addr} {te ti tv : TE} {ta : TA} {α β γ κ ι ρ δ : Type} {R : Rep γ} {S : Rep β} {T : Rep γ} {B : Rep κ} {A : AR ι} {D : Ends} {tz tu : TS} {ns : List Str} {X : XK} {Q : VK}
variable {pa : α → δ} {ad : ι → δ} {ci : α → ρ → Cs} {a : α} {r r' : ρ} {i : ι}
end
end Sim

set_option maxHeartbeats 2000000
/-! groups of cells at the law's level -/
namespace Sim
open PySem PySem.Spec PyProof.Rows L2 Evl SlX
section
variable {K : PySem.W.Frag} {σ : L2.St} {G0 H0 G H G1 H1 G2 H2 W : Hp} {ls : List Addr} {cs cs0 cs2 fr tl : Cs} {l p C : Addr} {te ti tv : TE} {ta : TA} {α β γ κ ι ρ δ : Type} {R : Rep γ} {S : Rep β} {T : Rep γ} {B : Rep κ} {A : AR ι} {D : Ends} {tz tu : TS} {ns : List Str} {X : XK} {Q : VK} {c : Addr × CP}
end
end Sim
namespace Sim
open PySem PySem.Spec PyProof.Rows L2 Evl SlX
end Sim

set_option maxHeartbeats 2000000
/-! a comprehension over a dict's keys; append to a list that nobody keeps -/
namespace Sim
open PySem PySem.Spec PyProof.Rows L2 Evl SlX
section
variable {K : PySem.W.Frag} {σ : L2.St} {G0 H0 G H G1 H1 G2 H2 W : Hp} {ls : List Addr} {cs fr tl : Cs} {l p C a : Addr} {od : Obj} {ws : List (Key × V)} {te ti tv : TE} {ta : TA} {α β γ κ ι ρ δ : Type} [DecidableEq κ] {kf : κ → Key} {R : Rep γ} {S : Rep β} {T : Rep γ} {Sk : Rep κ} {D : Ends} {tz tu : TS} {ns : List Str} {X : XK} {Q : VK} {c : Addr × CP}
end
end Sim

/-! C() of a class without an own __init__; methods called with keywords or defaults, what is raised wished for -/
namespace L2
open PySem PySem.Spec PyProof.Rows
section
variable {X : Cx} {CX : CXT} {k n : Nat} {f C : Addr} {fd : FuncData} {ps ks : List Str} {sp : Sp} {E : St → XK} {x m : Str} {p pos apos : Pos} {e o : Expr} {es : List Expr} {kws : List Keyword} {ta : TE} {t tk : TA} {g : List Value → List Value → List Value} {gV : List V → List V → List V} {ds : List Value} {dvs : List V}
/-- a class whose __init__ is object's -/
structure MkB (K : PySem.W.Frag) (C : Addr) : Prop where
  makes : PySem.W.makesIn K C = true
  init : PySem.W.findIn K (.ref C) "__init__" = some (some (.builtin "object.__init__"))
  kp : PySem.W.keepIn K (.ref C) = true
/-! ### o.m(k = v, ..) -/
/-! ### o.m() with defaults -/
end
end L2
namespace Sim
open PySem PySem.Spec PyProof.Rows L2 Evl
section
variable {K : PySem.W.Frag} {σ : L2.St} {G0 H0 G H W : Hp} {ls : List Addr} {cs : Cs} {C p : Addr} {te : TE} {ta tk : TA} {Q : VK} {j n nk : Nat} {ns : List Str} {ps : List Pd} {me : Str}
end
end Sim

/-! rules: what is called with an object of several parts and tells a name -/
namespace Sim
open PySem PySem.Spec PyProof.Rows L2 Evl LamX LamF NdefX
section
variable (P : Program) (w : World) (K : PySem.W.Frag) (mg : Str → Option Value) (base : Heap) {α ρ τ : Type} (pa : α → Addr) (ci : α → ρ → Cs)
end
section
variable {P : Program} {w : World} {K : PySem.W.Frag} {mg : Str → Option Value} {base : Heap} {α ρ τ : Type} {pa : α → Addr} {ci : α → ρ → Cs} {k kk : Nat} {G0 H0 G H G2 H2 : Hp} {ls : List Addr} {cs : Cs} {f : Addr} {ct : τ → Cs} {an : τ → ρ → Option (Str × τ)} {σ : L2.St} {an0 : ρ → Option Str} {v : V}
end
end Sim

set_option maxHeartbeats 2000000
/-! an object with a list of its own, lent and walked by its own __iter__; made where it is told; a field that gets an object just made -/
namespace Sim
open PySem PySem.Spec PyProof.Rows L2 Evl SlX
section
variable {K : PySem.W.Frag} {σ : L2.St} {G0 H0 G H G1 H1 G2 H2 W : Hp} {ls : List Addr} {cs cs0 : Cs} {l p C C2 : Addr} {te : TE} {ta : TA} {α β γ κ ι ρ : Type} {R : Rep γ} {S : Rep β} {B : Rep κ} {A : AR ι} {D : Ends} {tz : TS} {ns : List Str} {X : XK} {Q : VK}
end
end Sim

/-! a step by a rule of the caller's -/
namespace Sim
open PySem PySem.Spec PyProof.Rows L2 Evl LamX LamF NdefX
section
variable {P : Program} {w : World} {K : PySem.W.Frag} {mg : Str → Option Value} {base : Heap} {α ρ τ : Type} {pa : α → Addr} {ci : α → ρ → Cs} {k kk : Nat} {G0 H0 G H G2 H2 : Hp} {ls : List Addr} {cs : Cs} {f : Addr} {ct : τ → Cs} {an : τ → ρ → Option (Str × τ)} {σ : L2.St} {an0 : ρ → Option Str} {v : V}
end
section
variable {D : List Addr} {G W : Hp} {σ : L2.St} {te : TE} {γ κ : Type} {R : Rep γ}
end
section
variable {α : Type} {σ : L2.St} {G0 H0 G H : Hp} {ls : List Addr} {cs : Cs} {C : Addr} {ns : List Str} {fl : α → List Pd} {x : α} {te : TE} {ta : TA} {X : XK} {Q : VK} {me : Str}
end
end Sim

/-! a dict that changes, read as data by a call whose answer is new lists of plain pairs -/
namespace Sim
open PySem PySem.Spec PyProof.Rows L2 Evl LamX LamF NdefX
section
variable {D : List Addr} {W Z G G0 H0 H : Hp} {ls : List Addr} {cs : Cs} {σ : L2.St} {te : TE} {α β κ : Type} {R : Rep α} {S : Rep β} {l : Addr} {i : Nat}
theorem Off.p0 {x : α × β} (hD : ∀ a ∈ D, ∀ vs, W a ≠ some (.tup vs)) (h1 : Off D W Z R x.1) (h2 : Off D W Z S x.2) : Off D W Z (rP R S) x := fun G v hZ hG ⟨a, p, q, e1, e2, e3, e4⟩ => by
  have hn : a ∉ D := fun z => hD a z _ (by rw [← hG a z]; exact e2)
  exact ⟨a, p, q, e1, rm_of e2 hn, h1 G p hZ hG e3, h2 G q hZ hG e4⟩
variable [DecidableEq κ] {kf : κ → Key} {d : List (κ × α)}
end
section
variable {σ : L2.St} {G W : Hp} {te : TE} {α β : Type} {R : Rep α} {S : Rep β}
end
end Sim

set_option maxHeartbeats 2000000
/-! texts laid in fields; list.count; a paper told by a run, as data -/
namespace PySem.W
open PySem PySem.Calls PyProof.Rows
open Builtin Builtin.Str Builtin.Int Builtin.Float
/-- a spec of a side and a width -/
structure XaSp (sp : PySem.Str) (k al n : Nat) (ty : String) : Prop where
  ne : (sp.length == 0) = false
  asc : ((sp.cps.toList.drop 1).any (· ≥ 128) || (sp.cps.getD 0 0 ≥ 128 && !([60, 62, 61, 94] : List Nat).contains (sp.cps.getD 1 0))) = false
  hp : parseFormatSpec sp.cps.toList ty k = .ok { align := al, width := some n }
  hb : (sp.cps.back? == some 0) = false
  hl : tooLong n = false
  hn : n ≤ 100000
  sz : sp.length ≤ sizeLine
end PySem.W
namespace L2
open PySem PySem.Spec PyProof.Rows PySem.W
section
variable {X : Cx} {e spec : Expr} {te : TE} {sp : Str} {n : Nat} {pos : Pos}
end
end L2
namespace Sim
open PySem PySem.Spec PyProof.Rows L2 Evl
/-! ### texts -/
section
variable {K : PySem.W.Frag} {σ : L2.St} {G0 H0 G H G2 H2 W : Hp} {ls : List Addr} {cs : Cs} {l : Addr} {ta : TA} {te ti tu : TE} {tl th : TO} {α β γ κ ι ρ : Type} {R : Rep α} {S : Rep β} {T : Rep γ} {B : Rep κ} {A : AR ι} {D : Ends} {tz : TS} {Q : VK} {X : XK}
/-! ### an item set, its value told with effects -/
/-! ### a paper told by a run, as data -/
/-! ### a def that reads a run and tells a new list -/
end
end Sim

set_option maxHeartbeats 2000000
namespace Sim
open PySem PySem.Spec PyProof.Rows L2 Evl
/-! ### a dict lent to a def that only reads it; a run whose cells move -/
section
variable {K : PySem.W.Frag} {σ : L2.St} {G0 H0 G H G2 H2 W : Hp} {ls : List Addr} {cs : Cs} {l : Addr} {ta : TA} {te ti tu : TE} {α β γ κ ι ρ δ : Type} {R : Rep α} {S : Rep β} {T : Rep γ} {B : Rep κ} {A : AR ι} {Q : VK} {X : XK}
end
end Sim

/-! a def that takes a new list over; records and texts in an exception's fields; mixed lists -/
namespace Sim
open PySem PySem.Spec PyProof.Rows L2 Evl
section
variable {K : PySem.W.Frag} {σ : L2.St} {G0 H0 G H G2 H2 W : Hp} {ls : List Addr} {cs : Cs} {α β γ δ ι : Type} {R : Rep α} {A : AR ι} {te : TE} {ta : TA} {D : Ends} {tz : TS}
end
end Sim

/-! a list of lists that are changed in place -/
namespace Sim
open PySem PySem.Spec PyProof.Rows L2 Evl
section
variable {K : PySem.W.Frag} {σ : L2.St} {G0 H0 G H G2 H2 W : Hp} {ls : List Addr} {cs : Cs} {p : Addr} {α β γ δ ι : Type} {R : Rep α} {te ti tj : TE} {D : Ends} {tz : TS}
end
end Sim

/-! records and mixed data in exceptions and lists; raising calls that read a list, in tests and in fields; a paper's raising put -/
namespace Sim
open PySem PySem.Spec PyProof.Rows L2 Evl
section
variable {K : PySem.W.Frag} {σ : L2.St} {G0 H0 G H G2 H2 W : Hp} {ls : List Addr} {cs : Cs} {l p C : Addr} {α β γ δ ι κ ρ : Type} {R : Rep α} {S : Rep β} {T : Rep γ} {B : Rep κ} {A : AR ι} {te ti tj : TE} {ta : TA} {D : Ends} {tu tv tz : TS} {ns : List Str}
/-- what is read is of one kind: the mirror looks whether it is -/
theorem e_nar {c : α → Option β} {m : Option α} (h : E te σ G W R m) (hc : ∀ {G : Hp} {v : V} {x : α} {y : β}, R.r G v x → c x = some y → S.r G v y) : E te σ G W S (m >>= c) := fun z hz H e e' Q q => by
  obtain ⟨x, hx, hz⟩ := bindS hz
  exact h x hx H e e' Q fun v H2 G2 u r => q v H2 G2 u (hc r hz)
end
end Sim

/-! raise C() without arguments; != of lists of mixed data (objects by their addresses); a list's objects by their addresses -/
namespace L2
open PySem PySem.Spec PyProof.Rows SkE
theorem pmk_own0 {X : Cx} {C : Addr} {bmB : List Value} {B newId initId : String} {x : Str} {p pos : Pos} (F : ExcBaseFacts B newId initId bmB) (q : PySem.W.excIn X.K C bmB newId = true) (gC : X.mg x = some (.ref C)) (kC : PySem.W.keepIn X.K (.ref C) = true) (r : Raises X (.ref C)) (hg : Gl X x)
    (hdb : (x == ("__debug__" : Str)) = false := by decide) :
    PMk X (.Call (.Name x p) [] [] pos) (fun _ H Q => Q (.ref C) none H) := by
  intro pins s σ H Q I h
  refine wpAny_Call_Name_kw (ld_glob I hg gC ?_ hdb)
  refine PySem.W.callWith_K0 I.kIn kC ?_
  show wpAny _ _ (call (.ref C) []) _ _ _
  obtain ⟨bm, N, nm, qn, bs, hdct, sn, sub, ab, col, dd, k0, k1, k2, k3, k5, mN, hC, hN, hni, T⟩ := exc_obj I.kIn q
  refine wpAny_call_exc_subT F T hC hN hni (fun h' e hm => ?_) (by show 0 ≤ sizeLine; exact Nat.zero_le _)
  exact mk_of I hm r h (I.hok.gone hm.new)
theorem pmk_none {X : Cx} {C x : Str} {p pos : Pos} (h : ownXB C X.K = true) (gC : X.mg x = some (.ref (He.ga X.K C))) (hg : Gl X x) (hdb : (x == ("__debug__" : Str)) = false := by decide) :
    PMk X (.Call (.Name x p) [] [] pos) (fun _ H Q => Q (.ref (He.ga X.K C)) none H) := by
  unfold ownXB at h
  obtain ⟨h1, h⟩ := He.ba h
  obtain ⟨h2, h⟩ := He.ba h
  obtain ⟨h3, h4⟩ := He.ba h
  exact pmk_own0 PySem.F.excBase_ValueError h1 gC h4 (raises_own (of_decide_eq_true h2) (of_decide_eq_true h3)) hg hdb
def rNeX (K : PySem.W.Frag) : R2 := fun x y H Q => ∃ p q vs ws, x = .ref p ∧ y = .ref q ∧ H p = some (.lst vs) ∧ H q = some (.lst ws) ∧ ((vs.length ≠ ws.length ∧ Q (.bl true) H) ∨ ∃ bs, ItEq K H vs ws bs ∧ Q (.bl (!bs.all id)) H)
theorem all_at (bs : List Bool) : ((List.range bs.length).all fun j => bs.getD j true) = bs.all id := by
  rw [Bool.eq_iff_iff, List.all_eq_true, List.all_eq_true]
  constructor
  · intro h b hb
    obtain ⟨i, hi, e⟩ := List.getElem_of_mem hb
    have := h i (List.mem_range.mpr hi)
    rw [List.getD_eq_getElem?_getD, List.getElem?_eq_getElem hi] at this
    show b = true
    rw [← e]
    exact this
  · intro h i hi
    have hi := List.mem_range.mp hi
    rw [List.getD_eq_getElem?_getD, List.getElem?_eq_getElem hi]
    exact h _ (List.getElem_mem hi)
theorem one_at {X : Cx} {pins : List (Addr × Obj)} {σ : St} {H : Hp} {s : Shared} {A : Around} (hu : A.units + 60 < cLine) (I : Inv X pins σ H s) {v w : V} {b : Bool} {u u' : Value} (ru : RelV v u) (rw' : RelV w u') (h : OneEq X.K H v w b) : SeqAt.EqAt A s u u' b := by
  rcases h with ⟨a, rfl, rfl, rfl⟩ | ⟨d, e, hd, he, sd, se, rfl⟩
  · cases ru
    cases rw'
    exact SeqAt.EqAt.same _
  · obtain ⟨as, r1⟩ := Dp.reads I d v u hd ru
    obtain ⟨bs, r2⟩ := Dp.reads I e w u' he rw'
    exact SeqAt.eqAt_plain d e A s u u' as bs r1 r2 sd.1 se (by have := sd.2; omega)
theorem its_at {X : Cx} {pins : List (Addr × Obj)} {σ : St} {H : Hp} {s : Shared} {A : Around} (hu : A.units + 60 < cLine) (I : Inv X pins σ H s) {vs ws : List V} {bs : List Bool} (h : ItEq X.K H vs ws bs) : ∀ {us us' : List Value}, Vals vs us → Vals ws us' → us.length = us'.length ∧ bs.length = us.length ∧ ∀ j (h1 : j < us.length) (h2 : j < us'.length), SeqAt.EqAt A s us[j] us'[j] (bs.getD j true) := by
  induction h with
  | nil =>
    intro us us' r r'
    cases r
    cases r'
    exact ⟨rfl, rfl, fun j h1 => absurd h1 (Nat.not_lt_zero _)⟩
  | cons o _ ih =>
    intro us us' r r'
    cases r with
    | cons r1 r2 =>
    cases r' with
    | cons r1' r2' =>
    obtain ⟨e1, e2, e3⟩ := ih r2 r2'
    refine ⟨congrArg (· + 1) e1, congrArg (· + 1) e2, fun j h1 h2 => ?_⟩
    cases j with
    | zero => exact one_at hu I r1 r1' o
    | succ j => exact e3 j (Nat.lt_of_succ_lt_succ h1) (Nat.lt_of_succ_lt_succ h2)
theorem op_neX {X : Cx} (hu : X.A.units + 64 < cLine) : OpR X (compareOp .NotEq) (rNeX X.K) := by
  intro pins s σ H x y v u Q I rx ry h
  obtain ⟨p, q, vs, ws, rfl, rfl, hp, hq, h⟩ := h
  cases rx
  cases ry
  obtain ⟨us, rv, pl, _⟩ := I.list (Or.inl (Or.inl hp))
  obtain ⟨us', rv', pl', _⟩ := I.list (Or.inl (Or.inl hq))
  have pl : s.heap.IsList p us.toArray := by
    obtain ⟨o, n, ho, hc, _, hd⟩ := pl
    exact ⟨o, ho, hc, n, hd⟩
  have pl' : s.heap.IsList q us'.toArray := by
    obtain ⟨o, n, ho, hc, _, hd⟩ := pl'
    exact ⟨o, ho, hc, n, hd⟩
  have l1 := rv.length
  have l2 := rv'.length
  rcases h with ⟨hne, q9⟩ | ⟨bs, hi, q9⟩
  · exact SeqAt.RcNeAt.lists_lengths pl pl' (by simp only [bne_iff_ne, List.size_toArray]; omega) (by omega) _ _ _ _ ⟨.bl _, H, I, rfl, q9⟩
  · obtain ⟨e1, e2, e3⟩ := its_at (A := X.A.in1) (by show X.A.units + 1 + 60 < cLine; omega) I hi rv rv'
    refine SeqAt.RcNeAt.lists (e := fun j => bs.getD j true) pl pl' (by simpa using e1) (by omega) (fun j h1 h2 => e3 j (by simpa using h1) (by simpa using h2)) _ _ _ _ ?_
    have e9 : ((List.range us.toArray.size).all fun j => bs.getD j true) = bs.all id := by rw [show us.toArray.size = bs.length by simp [e2], all_at]
    rw [e9]
    exact ⟨.bl (!bs.all id), H, I, rfl, q9⟩
end L2
namespace Sim
open PySem PySem.Spec PyProof.Rows L2 Evl
section
variable {K : PySem.W.Frag} {σ : L2.St} {G0 H0 G H G2 H2 W : Hp} {ls : List Addr} {cs : Cs} {C : Addr} {α β : Type} {R : Rep α} {D : Ends} {tz : TS} {W9 : WX}
theorem rP_rT {x : α × α} {v : V} (h : (rP R R).r G v x) : (rT R).r G v [x.1, x.2] := by
  obtain ⟨a, u, w, h1, h2, h3, h4⟩ := h
  exact ⟨a, [u, w], h1, .inl h2, .cons h3 (.cons h4 .nil)⟩
/-- are two pieces of mixed data the same -/
def eqX : Xv → Xv → Option Bool
  | .int a, .int b => some (decide (a = b))
  | .str a, .str b => some (decide (a = b))
  | .txs a, .txs b => some (decide (a = b))
  | .adr a, .adr b => if a = b then some true else none
  | _, _ => none
def eqXs : List Xv → List Xv → Option (List Bool)
  | [], [] => some []
  | x :: xs, y :: ys => eqX x y >>= fun b => eqXs xs ys >>= fun bs => some (b :: bs)
  | _, _ => none
def neX (xs ys : List Xv) : Option Bool := if xs.length ≠ ys.length then some true else eqXs xs ys >>= fun bs => some (!bs.all id)
theorem eqX_ok {x y : Xv} {b : Bool} {v w : V} (hv : (rX K).r G v x) (hw : (rX K).r G w y) (h : eqX x y = some b) : OneEq K G v w b := by
  cases x with
  | int a =>
    cases y <;> cases h
    exact .inr ⟨_, _, dtI.dp hv, dtI.dp hw, ⟨rfl, Nat.zero_le _⟩, rfl, (eqvD dtI _ _).symm⟩
  | str a =>
    cases y <;> cases h
    exact .inr ⟨_, _, dtS.dp hv, dtS.dp hw, ⟨rfl, Nat.zero_le _⟩, rfl, (eqvD dtS _ _).symm⟩
  | txs a =>
    cases y <;> cases h
    have d := dtT dtS
    exact .inr ⟨_, _, d.dp hv, d.dp hw, ⟨d.lay _, Nat.le_trans (d.dep _) (by decide)⟩, d.lay _, (eqvD d _ _).symm⟩
  | bl a => cases y <;> cases h
  | recd _ _ _ => cases y <;> cases h
  | adr a =>
    cases y with
    | adr c =>
      have h : (if a = c then some true else none) = some b := h
      by_cases e : a = c
      · rw [if_pos e] at h
        have hb := Option.some.inj h
        subst e
        exact .inl ⟨a, hv, hw, hb.symm⟩
      · rw [if_neg e] at h
        cases h
    | int _ => cases h
    | str _ => cases h
    | txs _ => cases h
    | bl _ => cases h
    | recd _ _ _ => cases h
theorem eqXs_ok {G : Hp} : ∀ {xs ys : List Xv} {vs ws : List V} {bs : List Bool}, Paired ((rX K).r G) vs xs → Paired ((rX K).r G) ws ys → eqXs xs ys = some bs → ItEq K G vs ws bs
  | [], [], _, _, bs, .nil, .nil, h => by cases h; exact .nil
  | x :: xs, y :: ys, _, _, bs, .cons r t, .cons r' t', h => by
    obtain ⟨b, hb, h⟩ := bindS h
    obtain ⟨cs, hc, h⟩ := bindS h
    cases h
    exact .cons (eqX_ok r r' hb) (eqXs_ok t t' hc)
theorem pr_len {F : V → α → Prop} : ∀ {vs : List V} {xs : List α}, Paired F vs xs → vs.length = xs.length
  | _, _, .nil => rfl
  | _, _, .cons _ t => congrArg (· + 1) (pr_len t)
theorem rr_neX : RR (rNeX K) (rL (rX K)) (rL (rX K)) rB (fun x y => neX x y) := fun v w x y z H G hv hw hz e Q q => by
  obtain ⟨p, vs, rfl, h2, h3⟩ := (rL (rX K)).mono e hv
  obtain ⟨p', ws, rfl, k2, k3⟩ := (rL (rX K)).mono e hw
  have hz : neX x y = some z := hz
  have l1 := pr_len h3
  have l2 := pr_len k3
  unfold neX at hz
  refine ⟨p, p', vs, ws, rfl, rfl, h2, k2, ?_⟩
  split at hz
  · rename_i hne
    cases hz
    exact .inl ⟨by omega, q _ H G (Up.refl e) rfl⟩
  · obtain ⟨bs, hb, hz⟩ := bindS hz
    cases hz
    exact .inr ⟨bs, eqXs_ok h3 k3 hb, q _ H G (Up.refl e) rfl⟩
/-- a list of slotted objects, by their addresses -/
theorem by_adr {fl : α → Ps} {v : V} {xs : List α} (h : (rL (rSl C fl)).r G v xs) : ∃ as : List Addr, as.length = xs.length ∧ (rL rA).r G v as := by
  obtain ⟨p, vs, h1, h2, h3⟩ := h
  have : ∀ {vs : List V} {xs : List α}, Paired ((rSl C fl).r G) vs xs → ∃ as : List Addr, as.length = xs.length ∧ Paired (rA.r G) vs as := by
    intro vs xs h
    induction h with
    | nil => exact ⟨[], rfl, .nil⟩
    | cons r _ ih =>
      obtain ⟨as, e, t⟩ := ih
      obtain ⟨a, _, _, e2, _⟩ := r
      exact ⟨a :: as, congrArg (· + 1) e, .cons e2 t⟩
  obtain ⟨as, e, t⟩ := this h3
  exact ⟨as, e, p, vs, h1, h2, t⟩
noncomputable def allA {ρ : Type} (n : Nat) (f : List Addr → Option ρ) : Option ρ := @dite _ (∃ z, ∀ as : List Addr, as.length = n → f as = some z) (Classical.propDecidable _) (fun h => some h.choose) (fun _ => none)
theorem allA_at {ρ : Type} {n : Nat} {f : List Addr → Option ρ} {z : ρ} (h : allA n f = some z) {as : List Addr} (l : as.length = n) : f as = some z := by
  unfold allA at h
  split at h
  · rename_i h'
    cases h
    exact h'.choose_spec as l
  · cases h
theorem allA_of {ρ : Type} {n : Nat} {f : List Addr → Option ρ} {z : ρ} (h : ∀ as : List Addr, as.length = n → f as = some z) : allA n f = some z := by
  unfold allA
  have h' : ∃ z, ∀ as : List Addr, as.length = n → f as = some z := ⟨z, h⟩
  rw [dif_pos h']
  have := h'.choose_spec (List.replicate n 0) (List.length_replicate ..)
  rw [h _ (List.length_replicate ..)] at this
  exact congrArg some (Option.some.inj this).symm
end
end Sim

set_option maxHeartbeats 40000000
set_option synthInstance.maxSize 4000
set_option synthInstance.maxHeartbeats 1000000
namespace My
open PySem PySem.Spec PyProof.Rows L2 Sim
theorem be1 {α β : Type} {x : Option α} {f : α → Option β} : (x >>= f) = Option.bind x f := Eq.trans (show (x >>= f) = Option.bind x f from rfl) (Eq.refl _)
theorem bs1 {α β : Type} {a : α} {f : α → Option β} : Option.bind (some a) f = f a := Eq.trans (Option.bind_some a f) (Eq.refl _)
theorem bifT {α : Type} {a b c : α} (h : (bif true then a else b) = c) : a = c := h
theorem bifF {α : Type} {a b c : α} (h : (bif false then a else b) = c) : b = c := h
theorem elimL {α β γ : Type} {f : α → γ} {g : β → γ} {a : α} {c : γ} (h : Sum.elim f g (Sum.inl a) = c) : f a = c := h
theorem ba1 {α β γ : Type} {x : Option α} {f : α → Option β} {g : β → Option γ} : Option.bind (Option.bind x f) g = Option.bind x fun y => Option.bind (f y) g := Option.bind_assoc ..
structure m_Record where
  name : Str
  asks : (List (Str × Int))
  result : Int
deriving DecidableEq
def fl_Record (K : PySem.W.Frag) (o : m_Record) : Ps := [(1, pd rS o.name), (0, pd (rT (rP rS rI)) o.asks), (2, pd rI o.result)]
section
variable {w : World} {K : PySem.W.Frag} {mg : Str → Option Value} {base : Heap}
theorem fr_super (T : Tx K mg) : mg "super" = none := T.free 25 rfl
theorem fr_len (T : Tx K mg) : mg "len" = none := T.free 26 rfl
theorem fr_min (T : Tx K mg) : mg "min" = none := T.free 27 rfl
theorem fr_range (T : Tx K mg) : mg "range" = none := T.free 28 rfl
theorem fr_abs (T : Tx K mg) : mg "abs" = none := T.free 29 rfl
theorem fr_int (T : Tx K mg) : mg "int" = none := T.free 30 rfl
theorem fr_tuple (T : Tx K mg) : mg "tuple" = none := T.free 31 rfl
theorem fr_isinstance (T : Tx K mg) : mg "isinstance" = none := T.free 32 rfl
theorem fr_ValueError (T : Tx K mg) : mg "ValueError" = none := T.free 33 rfl
theorem ns_BadSize : NdefX.NScope ["self", "size", "__class__"] ["self", "size"] ["__class__"] (defScope s_BadSize___init__) := NdefX.nscope_by (by decide +kernel)
theorem known_BadSize (T : Tx K mg) : XcK P K mg x_BadSize := XcD.known (T.xc 0 rfl).1 (T.xc 0 rfl).2 (fr_super T) (by decide +kernel) (by decide +kernel) (by decide +kernel) rfl (by decide +kernel)
theorem okx_BadSize (T : Tx K mg) : ∃ fd, Binds K fd ["self", "size"] [] ∧ FnOk P w K mg base CX0 1 (xcAd K "BadSize") fd ["self", "size"] (spX (He.ga K "BadSize") ["size"]) := by
  obtain ⟨fd, cc, c, Z⟩ := (known_BadSize T).ex
  refine ⟨fd, ?_, ?_⟩
  · obtain ⟨oc, od, osl, kV, doc, pm, an, ct, rfl, lk⟩ := Z.lk
    exact .all fun us hl => match us, hl with | [_, _], _ => rfl
  · refine xinit (F := ⟨"__init__", x_BadSize.qual, x_BadSize.params, x_BadSize.body, x_BadSize.scope, [("__class__", cc)], c⟩) (fi := [("size", 1)]) ns_BadSize Z rfl (fun _ => rfl) (fun _ => rfl) (fun f hf => ?_) rfl (fun a ws h => ?_) (fun A outer s H E => ?_)
    · simp only [List.mem_cons, List.not_mem_nil, or_false] at hf
      rcases hf with rfl
      · exact noB_ok (T.mo 176 rfl)
    · match ws, h with
      | [y1], _ => exact ⟨("size", 1, y1), [], by simp, rfl, rfl, by simp [NdefX.startF]⟩
    · exact pss_cons (ps_ost (pe_var (i := 0) rfl (Or.inl rfl)) (pe_var (i := 1) rfl (Or.inl rfl))) (pss_nil)
theorem ns_NotElement : NdefX.NScope ["self", "value", "__class__"] ["self", "value"] ["__class__"] (defScope s_NotElement___init__) := NdefX.nscope_by (by decide +kernel)
theorem known_NotElement (T : Tx K mg) : XcK P K mg x_NotElement := XcD.known (T.xc 1 rfl).1 (T.xc 1 rfl).2 (fr_super T) (by decide +kernel) (by decide +kernel) (by decide +kernel) rfl (by decide +kernel)
theorem okx_NotElement (T : Tx K mg) : ∃ fd, Binds K fd ["self", "value"] [] ∧ FnOk P w K mg base CX0 1 (xcAd K "NotElement") fd ["self", "value"] (spX (He.ga K "NotElement") ["value"]) := by
  obtain ⟨fd, cc, c, Z⟩ := (known_NotElement T).ex
  refine ⟨fd, ?_, ?_⟩
  · obtain ⟨oc, od, osl, kV, doc, pm, an, ct, rfl, lk⟩ := Z.lk
    exact .all fun us hl => match us, hl with | [_, _], _ => rfl
  · refine xinit (F := ⟨"__init__", x_NotElement.qual, x_NotElement.params, x_NotElement.body, x_NotElement.scope, [("__class__", cc)], c⟩) (fi := [("value", 1)]) ns_NotElement Z rfl (fun _ => rfl) (fun _ => rfl) (fun f hf => ?_) rfl (fun a ws h => ?_) (fun A outer s H E => ?_)
    · simp only [List.mem_cons, List.not_mem_nil, or_false] at hf
      rcases hf with rfl
      · exact noB_ok (T.mo 177 rfl)
    · match ws, h with
      | [y1], _ => exact ⟨("value", 1, y1), [], by simp, rfl, rfl, by simp [NdefX.startF]⟩
    · exact pss_cons (ps_ost (pe_var (i := 0) rfl (Or.inl rfl)) (pe_var (i := 1) rfl (Or.inl rfl))) (pss_nil)
theorem ns_Ring : NdefX.NScope ["self", "first", "second", "__class__"] ["self", "first", "second"] ["__class__"] (defScope s_Ring___init__) := NdefX.nscope_by (by decide +kernel)
theorem known_Ring (T : Tx K mg) : XcK P K mg x_Ring := XcD.known (T.xc 2 rfl).1 (T.xc 2 rfl).2 (fr_super T) (by decide +kernel) (by decide +kernel) (by decide +kernel) rfl (by decide +kernel)
theorem okx_Ring (T : Tx K mg) : ∃ fd, Binds K fd ["self", "first", "second"] [] ∧ FnOk P w K mg base CX0 1 (xcAd K "Ring") fd ["self", "first", "second"] (spX (He.ga K "Ring") ["first", "second"]) := by
  obtain ⟨fd, cc, c, Z⟩ := (known_Ring T).ex
  refine ⟨fd, ?_, ?_⟩
  · obtain ⟨oc, od, osl, kV, doc, pm, an, ct, rfl, lk⟩ := Z.lk
    exact .all fun us hl => match us, hl with | [_, _, _], _ => rfl
  · refine xinit (F := ⟨"__init__", x_Ring.qual, x_Ring.params, x_Ring.body, x_Ring.scope, [("__class__", cc)], c⟩) (fi := [("first", 1), ("second", 2)]) ns_Ring Z rfl (fun _ => rfl) (fun _ => rfl) (fun f hf => ?_) rfl (fun a ws h => ?_) (fun A outer s H E => ?_)
    · simp only [List.mem_cons, List.not_mem_nil, or_false] at hf
      rcases hf with rfl | rfl
      · exact noB_ok (T.mo 178 rfl)
      · exact noB_ok (T.mo 179 rfl)
    · match ws, h with
      | [y1, y2], _ => exact ⟨("first", 1, y1), [("second", 2, y2)], by simp, rfl, rfl, by simp [NdefX.startF]⟩
    · exact pss_cons (ps_ost (pe_var (i := 0) rfl (Or.inl rfl)) (pe_var (i := 1) rfl (Or.inl rfl))) (pss_cons (ps_ost (pe_var (i := 0) rfl (Or.inl rfl)) (pe_var (i := 2) rfl (Or.inl rfl))) (pss_nil))
theorem ns_NoJoin : NdefX.NScope ["self", "first", "second", "__class__"] ["self", "first", "second"] ["__class__"] (defScope s_NoJoin___init__) := NdefX.nscope_by (by decide +kernel)
theorem known_NoJoin (T : Tx K mg) : XcK P K mg x_NoJoin := XcD.known (T.xc 3 rfl).1 (T.xc 3 rfl).2 (fr_super T) (by decide +kernel) (by decide +kernel) (by decide +kernel) rfl (by decide +kernel)
theorem okx_NoJoin (T : Tx K mg) : ∃ fd, Binds K fd ["self", "first", "second"] [] ∧ FnOk P w K mg base CX0 1 (xcAd K "NoJoin") fd ["self", "first", "second"] (spX (He.ga K "NoJoin") ["first", "second"]) := by
  obtain ⟨fd, cc, c, Z⟩ := (known_NoJoin T).ex
  refine ⟨fd, ?_, ?_⟩
  · obtain ⟨oc, od, osl, kV, doc, pm, an, ct, rfl, lk⟩ := Z.lk
    exact .all fun us hl => match us, hl with | [_, _, _], _ => rfl
  · refine xinit (F := ⟨"__init__", x_NoJoin.qual, x_NoJoin.params, x_NoJoin.body, x_NoJoin.scope, [("__class__", cc)], c⟩) (fi := [("first", 1), ("second", 2)]) ns_NoJoin Z rfl (fun _ => rfl) (fun _ => rfl) (fun f hf => ?_) rfl (fun a ws h => ?_) (fun A outer s H E => ?_)
    · simp only [List.mem_cons, List.not_mem_nil, or_false] at hf
      rcases hf with rfl | rfl
      · exact noB_ok (T.mo 180 rfl)
      · exact noB_ok (T.mo 181 rfl)
    · match ws, h with
      | [y1, y2], _ => exact ⟨("first", 1, y1), [("second", 2, y2)], by simp, rfl, rfl, by simp [NdefX.startF]⟩
    · exact pss_cons (ps_ost (pe_var (i := 0) rfl (Or.inl rfl)) (pe_var (i := 1) rfl (Or.inl rfl))) (pss_cons (ps_ost (pe_var (i := 0) rfl (Or.inl rfl)) (pe_var (i := 2) rfl (Or.inl rfl))) (pss_nil))
theorem ns_NoMeet : NdefX.NScope ["self", "first", "second", "__class__"] ["self", "first", "second"] ["__class__"] (defScope s_NoMeet___init__) := NdefX.nscope_by (by decide +kernel)
theorem known_NoMeet (T : Tx K mg) : XcK P K mg x_NoMeet := XcD.known (T.xc 4 rfl).1 (T.xc 4 rfl).2 (fr_super T) (by decide +kernel) (by decide +kernel) (by decide +kernel) rfl (by decide +kernel)
theorem okx_NoMeet (T : Tx K mg) : ∃ fd, Binds K fd ["self", "first", "second"] [] ∧ FnOk P w K mg base CX0 1 (xcAd K "NoMeet") fd ["self", "first", "second"] (spX (He.ga K "NoMeet") ["first", "second"]) := by
  obtain ⟨fd, cc, c, Z⟩ := (known_NoMeet T).ex
  refine ⟨fd, ?_, ?_⟩
  · obtain ⟨oc, od, osl, kV, doc, pm, an, ct, rfl, lk⟩ := Z.lk
    exact .all fun us hl => match us, hl with | [_, _, _], _ => rfl
  · refine xinit (F := ⟨"__init__", x_NoMeet.qual, x_NoMeet.params, x_NoMeet.body, x_NoMeet.scope, [("__class__", cc)], c⟩) (fi := [("first", 1), ("second", 2)]) ns_NoMeet Z rfl (fun _ => rfl) (fun _ => rfl) (fun f hf => ?_) rfl (fun a ws h => ?_) (fun A outer s H E => ?_)
    · simp only [List.mem_cons, List.not_mem_nil, or_false] at hf
      rcases hf with rfl | rfl
      · exact noB_ok (T.mo 182 rfl)
      · exact noB_ok (T.mo 183 rfl)
    · match ws, h with
      | [y1, y2], _ => exact ⟨("first", 1, y1), [("second", 2, y2)], by simp, rfl, rfl, by simp [NdefX.startF]⟩
    · exact pss_cons (ps_ost (pe_var (i := 0) rfl (Or.inl rfl)) (pe_var (i := 1) rfl (Or.inl rfl))) (pss_cons (ps_ost (pe_var (i := 0) rfl (Or.inl rfl)) (pe_var (i := 2) rfl (Or.inl rfl))) (pss_nil))
theorem ns_AskedTwice : NdefX.NScope ["self", "name", "__class__"] ["self", "name"] ["__class__"] (defScope s_AskedTwice___init__) := NdefX.nscope_by (by decide +kernel)
theorem known_AskedTwice (T : Tx K mg) : XcK P K mg x_AskedTwice := XcD.known (T.xc 5 rfl).1 (T.xc 5 rfl).2 (fr_super T) (by decide +kernel) (by decide +kernel) (by decide +kernel) rfl (by decide +kernel)
theorem okx_AskedTwice (T : Tx K mg) : ∃ fd, Binds K fd ["self", "name"] [] ∧ FnOk P w K mg base CX0 1 (xcAd K "AskedTwice") fd ["self", "name"] (spX (He.ga K "AskedTwice") ["name"]) := by
  obtain ⟨fd, cc, c, Z⟩ := (known_AskedTwice T).ex
  refine ⟨fd, ?_, ?_⟩
  · obtain ⟨oc, od, osl, kV, doc, pm, an, ct, rfl, lk⟩ := Z.lk
    exact .all fun us hl => match us, hl with | [_, _], _ => rfl
  · refine xinit (F := ⟨"__init__", x_AskedTwice.qual, x_AskedTwice.params, x_AskedTwice.body, x_AskedTwice.scope, [("__class__", cc)], c⟩) (fi := [("name", 1)]) ns_AskedTwice Z rfl (fun _ => rfl) (fun _ => rfl) (fun f hf => ?_) rfl (fun a ws h => ?_) (fun A outer s H E => ?_)
    · simp only [List.mem_cons, List.not_mem_nil, or_false] at hf
      rcases hf with rfl
      · exact noB_ok (T.mo 184 rfl)
    · match ws, h with
      | [y1], _ => exact ⟨("name", 1, y1), [], by simp, rfl, rfl, by simp [NdefX.startF]⟩
    · exact pss_cons (ps_ost (pe_var (i := 0) rfl (Or.inl rfl)) (pe_var (i := 1) rfl (Or.inl rfl))) (pss_nil)
theorem ns_Unanswered : NdefX.NScope ["self", "name", "__class__"] ["self", "name"] ["__class__"] (defScope s_Unanswered___init__) := NdefX.nscope_by (by decide +kernel)
theorem known_Unanswered (T : Tx K mg) : XcK P K mg x_Unanswered := XcD.known (T.xc 6 rfl).1 (T.xc 6 rfl).2 (fr_super T) (by decide +kernel) (by decide +kernel) (by decide +kernel) rfl (by decide +kernel)
theorem okx_Unanswered (T : Tx K mg) : ∃ fd, Binds K fd ["self", "name"] [] ∧ FnOk P w K mg base CX0 1 (xcAd K "Unanswered") fd ["self", "name"] (spX (He.ga K "Unanswered") ["name"]) := by
  obtain ⟨fd, cc, c, Z⟩ := (known_Unanswered T).ex
  refine ⟨fd, ?_, ?_⟩
  · obtain ⟨oc, od, osl, kV, doc, pm, an, ct, rfl, lk⟩ := Z.lk
    exact .all fun us hl => match us, hl with | [_, _], _ => rfl
  · refine xinit (F := ⟨"__init__", x_Unanswered.qual, x_Unanswered.params, x_Unanswered.body, x_Unanswered.scope, [("__class__", cc)], c⟩) (fi := [("name", 1)]) ns_Unanswered Z rfl (fun _ => rfl) (fun _ => rfl) (fun f hf => ?_) rfl (fun a ws h => ?_) (fun A outer s H E => ?_)
    · simp only [List.mem_cons, List.not_mem_nil, or_false] at hf
      rcases hf with rfl
      · exact noB_ok (T.mo 185 rfl)
    · match ws, h with
      | [y1], _ => exact ⟨("name", 1, y1), [], by simp, rfl, rfl, by simp [NdefX.startF]⟩
    · exact pss_cons (ps_ost (pe_var (i := 0) rfl (Or.inl rfl)) (pe_var (i := 1) rfl (Or.inl rfl))) (pss_nil)
theorem ns_TooMany : NdefX.NScope ["self", "most", "__class__"] ["self", "most"] ["__class__"] (defScope s_TooMany___init__) := NdefX.nscope_by (by decide +kernel)
theorem known_TooMany (T : Tx K mg) : XcK P K mg x_TooMany := XcD.known (T.xc 7 rfl).1 (T.xc 7 rfl).2 (fr_super T) (by decide +kernel) (by decide +kernel) (by decide +kernel) rfl (by decide +kernel)
theorem okx_TooMany (T : Tx K mg) : ∃ fd, Binds K fd ["self", "most"] [] ∧ FnOk P w K mg base CX0 1 (xcAd K "TooMany") fd ["self", "most"] (spX (He.ga K "TooMany") ["most"]) := by
  obtain ⟨fd, cc, c, Z⟩ := (known_TooMany T).ex
  refine ⟨fd, ?_, ?_⟩
  · obtain ⟨oc, od, osl, kV, doc, pm, an, ct, rfl, lk⟩ := Z.lk
    exact .all fun us hl => match us, hl with | [_, _], _ => rfl
  · refine xinit (F := ⟨"__init__", x_TooMany.qual, x_TooMany.params, x_TooMany.body, x_TooMany.scope, [("__class__", cc)], c⟩) (fi := [("most", 1)]) ns_TooMany Z rfl (fun _ => rfl) (fun _ => rfl) (fun f hf => ?_) rfl (fun a ws h => ?_) (fun A outer s H E => ?_)
    · simp only [List.mem_cons, List.not_mem_nil, or_false] at hf
      rcases hf with rfl
      · exact noB_ok (T.mo 186 rfl)
    · match ws, h with
      | [y1], _ => exact ⟨("most", 1, y1), [], by simp, rfl, rfl, by simp [NdefX.startF]⟩
    · exact pss_cons (ps_ost (pe_var (i := 0) rfl (Or.inl rfl)) (pe_var (i := 1) rfl (Or.inl rfl))) (pss_nil)
theorem ns_NoSide : NdefX.NScope ["self", "name", "__class__"] ["self", "name"] ["__class__"] (defScope s_NoSide___init__) := NdefX.nscope_by (by decide +kernel)
theorem known_NoSide (T : Tx K mg) : XcK P K mg x_NoSide := XcD.known (T.xc 8 rfl).1 (T.xc 8 rfl).2 (fr_super T) (by decide +kernel) (by decide +kernel) (by decide +kernel) rfl (by decide +kernel)
theorem okx_NoSide (T : Tx K mg) : ∃ fd, Binds K fd ["self", "name"] [] ∧ FnOk P w K mg base CX0 1 (xcAd K "NoSide") fd ["self", "name"] (spX (He.ga K "NoSide") ["name"]) := by
  obtain ⟨fd, cc, c, Z⟩ := (known_NoSide T).ex
  refine ⟨fd, ?_, ?_⟩
  · obtain ⟨oc, od, osl, kV, doc, pm, an, ct, rfl, lk⟩ := Z.lk
    exact .all fun us hl => match us, hl with | [_, _], _ => rfl
  · refine xinit (F := ⟨"__init__", x_NoSide.qual, x_NoSide.params, x_NoSide.body, x_NoSide.scope, [("__class__", cc)], c⟩) (fi := [("name", 1)]) ns_NoSide Z rfl (fun _ => rfl) (fun _ => rfl) (fun f hf => ?_) rfl (fun a ws h => ?_) (fun A outer s H E => ?_)
    · simp only [List.mem_cons, List.not_mem_nil, or_false] at hf
      rcases hf with rfl
      · exact noB_ok (T.mo 187 rfl)
    · match ws, h with
      | [y1], _ => exact ⟨("name", 1, y1), [], by simp, rfl, rfl, by simp [NdefX.startF]⟩
    · exact pss_cons (ps_ost (pe_var (i := 0) rfl (Or.inl rfl)) (pe_var (i := 1) rfl (Or.inl rfl))) (pss_nil)
theorem ns_Clash : NdefX.NScope ["self", "first", "second", "kind", "__class__"] ["self", "first", "second", "kind"] ["__class__"] (defScope s_Clash___init__) := NdefX.nscope_by (by decide +kernel)
theorem known_Clash (T : Tx K mg) : XcK P K mg x_Clash := XcD.known (T.xc 9 rfl).1 (T.xc 9 rfl).2 (fr_super T) (by decide +kernel) (by decide +kernel) (by decide +kernel) rfl (by decide +kernel)
theorem okx_Clash (T : Tx K mg) : ∃ fd, Binds K fd ["self", "first", "second", "kind"] [] ∧ FnOk P w K mg base CX0 1 (xcAd K "Clash") fd ["self", "first", "second", "kind"] (spX (He.ga K "Clash") ["first", "second", "kind"]) := by
  obtain ⟨fd, cc, c, Z⟩ := (known_Clash T).ex
  refine ⟨fd, ?_, ?_⟩
  · obtain ⟨oc, od, osl, kV, doc, pm, an, ct, rfl, lk⟩ := Z.lk
    exact .all fun us hl => match us, hl with | [_, _, _, _], _ => rfl
  · refine xinit (F := ⟨"__init__", x_Clash.qual, x_Clash.params, x_Clash.body, x_Clash.scope, [("__class__", cc)], c⟩) (fi := [("first", 1), ("second", 2), ("kind", 3)]) ns_Clash Z rfl (fun _ => rfl) (fun _ => rfl) (fun f hf => ?_) rfl (fun a ws h => ?_) (fun A outer s H E => ?_)
    · simp only [List.mem_cons, List.not_mem_nil, or_false] at hf
      rcases hf with rfl | rfl | rfl
      · exact noB_ok (T.mo 188 rfl)
      · exact noB_ok (T.mo 189 rfl)
      · exact noB_ok (T.mo 190 rfl)
    · match ws, h with
      | [y1, y2, y3], _ => exact ⟨("first", 1, y1), [("second", 2, y2), ("kind", 3, y3)], by simp, rfl, rfl, by simp [NdefX.startF]⟩
    · exact pss_cons (ps_ost (pe_var (i := 0) rfl (Or.inl rfl)) (pe_var (i := 1) rfl (Or.inl rfl))) (pss_cons (ps_ost (pe_var (i := 0) rfl (Or.inl rfl)) (pe_var (i := 2) rfl (Or.inl rfl))) (pss_cons (ps_ost (pe_var (i := 0) rfl (Or.inl rfl)) (pe_var (i := 3) rfl (Or.inl rfl))) (pss_nil)))
theorem ns_NotSettled : NdefX.NScope ["self", "wanted", "__class__"] ["self", "wanted"] ["__class__"] (defScope s_NotSettled___init__) := NdefX.nscope_by (by decide +kernel)
theorem known_NotSettled (T : Tx K mg) : XcK P K mg x_NotSettled := XcD.known (T.xc 10 rfl).1 (T.xc 10 rfl).2 (fr_super T) (by decide +kernel) (by decide +kernel) (by decide +kernel) rfl (by decide +kernel)
theorem okx_NotSettled (T : Tx K mg) : ∃ fd, Binds K fd ["self", "wanted"] [] ∧ FnOk P w K mg base CX0 1 (xcAd K "NotSettled") fd ["self", "wanted"] (spX (He.ga K "NotSettled") ["wanted"]) := by
  obtain ⟨fd, cc, c, Z⟩ := (known_NotSettled T).ex
  refine ⟨fd, ?_, ?_⟩
  · obtain ⟨oc, od, osl, kV, doc, pm, an, ct, rfl, lk⟩ := Z.lk
    exact .all fun us hl => match us, hl with | [_, _], _ => rfl
  · refine xinit (F := ⟨"__init__", x_NotSettled.qual, x_NotSettled.params, x_NotSettled.body, x_NotSettled.scope, [("__class__", cc)], c⟩) (fi := [("wanted", 1)]) ns_NotSettled Z rfl (fun _ => rfl) (fun _ => rfl) (fun f hf => ?_) rfl (fun a ws h => ?_) (fun A outer s H E => ?_)
    · simp only [List.mem_cons, List.not_mem_nil, or_false] at hf
      rcases hf with rfl
      · exact noB_ok (T.mo 191 rfl)
    · match ws, h with
      | [y1], _ => exact ⟨("wanted", 1, y1), [], by simp, rfl, rfl, by simp [NdefX.startF]⟩
    · exact pss_cons (ps_ost (pe_var (i := 0) rfl (Or.inl rfl)) (pe_var (i := 1) rfl (Or.inl rfl))) (pss_nil)
theorem ns_NotDue : NdefX.NScope ["self", "name", "__class__"] ["self", "name"] ["__class__"] (defScope s_NotDue___init__) := NdefX.nscope_by (by decide +kernel)
theorem known_NotDue (T : Tx K mg) : XcK P K mg x_NotDue := XcD.known (T.xc 11 rfl).1 (T.xc 11 rfl).2 (fr_super T) (by decide +kernel) (by decide +kernel) (by decide +kernel) rfl (by decide +kernel)
theorem okx_NotDue (T : Tx K mg) : ∃ fd, Binds K fd ["self", "name"] [] ∧ FnOk P w K mg base CX0 1 (xcAd K "NotDue") fd ["self", "name"] (spX (He.ga K "NotDue") ["name"]) := by
  obtain ⟨fd, cc, c, Z⟩ := (known_NotDue T).ex
  refine ⟨fd, ?_, ?_⟩
  · obtain ⟨oc, od, osl, kV, doc, pm, an, ct, rfl, lk⟩ := Z.lk
    exact .all fun us hl => match us, hl with | [_, _], _ => rfl
  · refine xinit (F := ⟨"__init__", x_NotDue.qual, x_NotDue.params, x_NotDue.body, x_NotDue.scope, [("__class__", cc)], c⟩) (fi := [("name", 1)]) ns_NotDue Z rfl (fun _ => rfl) (fun _ => rfl) (fun f hf => ?_) rfl (fun a ws h => ?_) (fun A outer s H E => ?_)
    · simp only [List.mem_cons, List.not_mem_nil, or_false] at hf
      rcases hf with rfl
      · exact noB_ok (T.mo 192 rfl)
    · match ws, h with
      | [y1], _ => exact ⟨("name", 1, y1), [], by simp, rfl, rfl, by simp [NdefX.startF]⟩
    · exact pss_cons (ps_ost (pe_var (i := 0) rfl (Or.inl rfl)) (pe_var (i := 1) rfl (Or.inl rfl))) (pss_nil)
theorem ns_OverLimit : NdefX.NScope ["self", "most", "__class__"] ["self", "most"] ["__class__"] (defScope s_OverLimit___init__) := NdefX.nscope_by (by decide +kernel)
theorem known_OverLimit (T : Tx K mg) : XcK P K mg x_OverLimit := XcD.known (T.xc 12 rfl).1 (T.xc 12 rfl).2 (fr_super T) (by decide +kernel) (by decide +kernel) (by decide +kernel) rfl (by decide +kernel)
theorem okx_OverLimit (T : Tx K mg) : ∃ fd, Binds K fd ["self", "most"] [] ∧ FnOk P w K mg base CX0 1 (xcAd K "OverLimit") fd ["self", "most"] (spX (He.ga K "OverLimit") ["most"]) := by
  obtain ⟨fd, cc, c, Z⟩ := (known_OverLimit T).ex
  refine ⟨fd, ?_, ?_⟩
  · obtain ⟨oc, od, osl, kV, doc, pm, an, ct, rfl, lk⟩ := Z.lk
    exact .all fun us hl => match us, hl with | [_, _], _ => rfl
  · refine xinit (F := ⟨"__init__", x_OverLimit.qual, x_OverLimit.params, x_OverLimit.body, x_OverLimit.scope, [("__class__", cc)], c⟩) (fi := [("most", 1)]) ns_OverLimit Z rfl (fun _ => rfl) (fun _ => rfl) (fun f hf => ?_) rfl (fun a ws h => ?_) (fun A outer s H E => ?_)
    · simp only [List.mem_cons, List.not_mem_nil, or_false] at hf
      rcases hf with rfl
      · exact noB_ok (T.mo 193 rfl)
    · match ws, h with
      | [y1], _ => exact ⟨("most", 1, y1), [], by simp, rfl, rfl, by simp [NdefX.startF]⟩
    · exact pss_cons (ps_ost (pe_var (i := 0) rfl (Or.inl rfl)) (pe_var (i := 1) rfl (Or.inl rfl))) (pss_nil)
theorem ns_BadLimit : NdefX.NScope ["self", "most", "__class__"] ["self", "most"] ["__class__"] (defScope s_BadLimit___init__) := NdefX.nscope_by (by decide +kernel)
theorem known_BadLimit (T : Tx K mg) : XcK P K mg x_BadLimit := XcD.known (T.xc 13 rfl).1 (T.xc 13 rfl).2 (fr_super T) (by decide +kernel) (by decide +kernel) (by decide +kernel) rfl (by decide +kernel)
theorem okx_BadLimit (T : Tx K mg) : ∃ fd, Binds K fd ["self", "most"] [] ∧ FnOk P w K mg base CX0 1 (xcAd K "BadLimit") fd ["self", "most"] (spX (He.ga K "BadLimit") ["most"]) := by
  obtain ⟨fd, cc, c, Z⟩ := (known_BadLimit T).ex
  refine ⟨fd, ?_, ?_⟩
  · obtain ⟨oc, od, osl, kV, doc, pm, an, ct, rfl, lk⟩ := Z.lk
    exact .all fun us hl => match us, hl with | [_, _], _ => rfl
  · refine xinit (F := ⟨"__init__", x_BadLimit.qual, x_BadLimit.params, x_BadLimit.body, x_BadLimit.scope, [("__class__", cc)], c⟩) (fi := [("most", 1)]) ns_BadLimit Z rfl (fun _ => rfl) (fun _ => rfl) (fun f hf => ?_) rfl (fun a ws h => ?_) (fun A outer s H E => ?_)
    · simp only [List.mem_cons, List.not_mem_nil, or_false] at hf
      rcases hf with rfl
      · exact noB_ok (T.mo 194 rfl)
    · match ws, h with
      | [y1], _ => exact ⟨("most", 1, y1), [], by simp, rfl, rfl, by simp [NdefX.startF]⟩
    · exact pss_cons (ps_ost (pe_var (i := 0) rfl (Or.inl rfl)) (pe_var (i := 1) rfl (Or.inl rfl))) (pss_nil)
def m__law_pot_b2 (x120 : Int) (s110 : ((List Int) × Int)) : Option ((List Int) × Int) :=
  ((some ((decide ((0 : Int) < s110.2)) || (x120 == (0 : Int))) >>= fun b123 => bif b123 then (modM s110.2 (100 : Int) >>= fun a142 => appM s110.1 a142 >>= fun pot_here_143 => some pot_here_143) else some s110.1) >>= fun s134 => (fdivM s110.2 (100 : Int) >>= fun rest_157 => some ((s134, rest_157))))
def m__law_pot_b1 (script0 : (List Int)) (x30 : Int) (s17 : (List Int)) : Option (List Int) :=
  ((atI script0 x30 >>= fun t33 => some (if t33 < 0 then -t33 else t33)) >>= fun rest_34 => (some (60 : Int) >>= fun many_38 => (((powM (10 : Int) (18 : Int) >>= fun t42 => some (decide (rest_34 < t42))) >>= fun b43 => bif b43 then ((((mulM (2 : Int) rest_34 >>= fun t77 => (((atI script0 x30 >>= fun t75 => some (decide (t75 < (0 : Int)))) >>= fun t76 => some (if t76 = true then (1 : Int) else 0)) >>= fun t78 => some (t77 + t78))) >>= fun t80 => ((mulM (2 : Int) x30 >>= fun t79 => some ((48271 : Int) + t79)) >>= fun t81 => mulM t80 t81)) >>= fun t82 => modM t82 (2147483647 : Int)) >>= fun rest_83 => (((mulM rest_83 rest_83 >>= fun t87 => (mulM rest_83 x30 >>= fun t88 => some (t87 + t88))) >>= fun t89 => modM t89 (2147483629 : Int)) >>= fun rest_90 => (some (4 : Int) >>= fun many_94 => some (many_94, rest_90)))) else some (many_38, rest_34)) >>= fun s67 => (some s67.1 >>= fun n103 => rngM 0 n103 >>= fun xs105 => forS (m__law_pot_b2) xs105 (s17, s67.2) >>= fun s110 => some (s110.1)))))
def m__law_pot (script0 : (List Int)) : Option (List Int) :=
  (some ([]) >>= fun pot_here_1 => (some (if (63 : Int) < (script0.length : Int) then (63 : Int) else (script0.length : Int)) >>= fun n10 => rngM 0 n10 >>= fun xs12 => forS (m__law_pot_b1 script0) xs12 pot_here_1 >>= fun s17 => (some (s17.reverse) >>= fun pot_here_173 => some s17.reverse)))
theorem sc__law_pot : FnScope ["_law_script", "_law_pot_here", "_law_place", "_law_rest", "_law_many", "_law_k"] ["_law_script"] (defScope s__law_pot) := ⟨rfl, rfl, rfl, by decide +kernel, rfl, by decide +kernel, by decide +kernel⟩
theorem ok__law_pot (T : Tx K mg) : Fk P w K mg base CX0 1 "_law_pot" ["_law_script"] (PL (aC (rScr K) aN) rI (fun i => m__law_pot i.1)) := by
  obtain ⟨fd, F⟩ := T.def_ 1 rfl
  have nd := sc__law_pot.nd
  refine fk_mk T.toTx (x := "_law_pot") (T.glo 18 rfl) F (fun _ _ _ _ _ _ us hl => match us, hl with | [_], _ => rfl) (F.ok sc__law_pot (fun vs H Q E h => ?_) (fun cdv A outer s H vs Q E hr h => ?_))
  · obtain ⟨G, ⟨script0, ⟨⟩⟩, r, e0, ⟨vscript0, _, rfl, hscript0, rfl⟩, h, k⟩ := h
    rfl
  · obtain ⟨G, ⟨script0, ⟨⟩⟩, r, e0, ⟨vscript0, _, rfl, hscript0, rfl⟩, h, k⟩ := h
    have w0 := Wo.start e0
    have h : m__law_pot script0 = some r := h
    unfold m__law_pot at h
    refine ⟨_, PSs.nox (pss_cons (ps_set (i := 1) nd rfl (Or.inl rfl) (pe_lst pa_nil)) (pss_cons (ps_for PassesOwn.never rfl (pi_range1 (by rfl) (fr_range T) (pa_cons (pe_callB (call_min2 rfl) (by rfl) (fr_min T) (by decide +kernel) (pa_cons (pe_callB (r := rLn K) call_len_seq (by rfl) (fr_len T) (by decide +kernel) (pa_cons (pv 0) pa_nil)) (pa_cons pe_int pa_nil))) pa_nil)) (pg_name (i := 2) nd rfl (Or.inl rfl)) (pss_cons (ps_set (i := 3) nd rfl (Or.inl rfl) (pe_callB call_abs (by rfl) (fr_abs T) (by decide +kernel) (pa_cons (pe_ix (r := rIxL K) ix_list (pv 0) (pv 2) (fun _ _ => rfl)) pa_nil))) (pss_cons (ps_set (i := 4) nd rfl (Or.inl rfl) pe_int) (Evl.pss_cut (ps_if (pt_cmpR op_lt (pv 3) (pe_op op_pow pe_int pe_int) (nomark _)) (pss_cons (ps_set (i := 3) nd rfl (Or.inl rfl) (pe_op op_mod (pe_callTy call_int1 (by rfl) (fr_int T) (by decide +kernel) (pa_cons (pe_op op_mul (pe_op op_add (pe_op op_mul pe_int (pv 3)) (pe_callTy call_int1 (by rfl) (fr_int T) (by decide +kernel) (pa_cons (pe_cmpR op_lt (pe_ix (r := rIxL K) ix_list (pv 0) (pv 2) (fun _ _ => rfl)) pe_int (nomark _)) pa_nil))) (pe_op op_add pe_int (pe_op op_mul pe_int (pv 2)))) pa_nil)) pe_int)) (pss_cons (ps_set (i := 3) nd rfl (Or.inl rfl) (pe_op op_mod (pe_callTy call_int1 (by rfl) (fr_int T) (by decide +kernel) (pa_cons (pe_op op_add (pe_op op_mul (pv 3) (pv 3)) (pe_op op_mul (pv 3) (pv 2))) pa_nil)) pe_int)) (pss_cons (ps_set (i := 4) nd rfl (Or.inl rfl) pe_int) pss_nil))) pss_nil) (pss_cons (ps_for PassesOwn.never rfl (pi_range1 (by rfl) (fr_range T) (pa_cons (pv 4) pa_nil)) (pg_name (i := 5) nd rfl (Or.inl rfl)) (Evl.pss_cut (ps_if (PW.pt (pw_or (pt_cmpR op_gt (pv 3) pe_int (nomark _)) (pw_or1 (pt_cmpR op_eq (pv 5) pe_int (nomark _))))) (pss_cons (ps_expr (pe_bm PySem.F.plainAttrs_list PySem.F.slot_list_append PySem.F.type_list_append mt_append (pv 1) (pa_cons (pe_op op_mod (pe_callTy call_int1 (by rfl) (fr_int T) (by decide +kernel) (pa_cons (pv 3) pa_nil)) pe_int) pa_nil))) pss_nil) pss_nil) (pss_cons (ps_set (i := 3) nd rfl (Or.inl rfl) (pe_op op_fdiv (pv 3) pe_int)) pss_nil))) pss_nil))))) (pss_cons (ps_expr (pe_bm0 PySem.F.plainAttrs_list PySem.F.slot_list_reverse PySem.F.type_list_reverse mt_reverse (pv 1))) (pss_cons (ps_ret (pv 1)) pss_nil)))), ?_⟩
    obtain ⟨pot_here_1, hx2, h⟩ := bindS h
    refine x_setL w0 (el_disp (R := rI) eal_nil) hx2 ?_
    intro p5 H3 G6 n7 w4 e8
    have h9 := Rep.mono _ e8 hscript0
    obtain ⟨n10, hx11, h⟩ := bindS h
    obtain ⟨xs12, hx13, h⟩ := bindS h
    obtain ⟨t15, hx16, h⟩ := bindS h
    refine x_forR w4 (ea_cons (Sim.E.is (e_cb rc_min2 (ea_cons (e_cb rc_lenScr (ea_cons (e_var (R := (rScr K)) (x := script0) rfl h9) ea_nil)) (ea_cons e_int ea_nil))) hx11) ea_nil) rfl hx13 (fun i G' H' σ' => ∃ s17 : (List Int), ∃ u18 : Option V, ∃ u19 : Option V, ∃ u20 : Option V, ∃ u21 : Option V, Wo G H [] G' H' [(p5, cL rI s17)] ∧ Evl.Ex G6 G' ∧ σ' = [some vscript0, some (V.ref p5), u20, u21, u19, u18] ∧ forS (m__law_pot_b1 script0) (xs12.drop i) s17 = some t15) ?_ ?_ ?_
    · intro G' H' w' e'
      exact ⟨pot_here_1, (none), (none), (none), (none), w', e', rfl, hx16⟩
    · rintro i29 x30 σ' G25 H28 hx31 ⟨s17, u18, u19, u20, u21, w26, e27, rfl, hm23⟩
      obtain ⟨q24, hb22, hm23⟩ := forS_at hx31 hm23
      have h32 := Rep.mono _ e27 h9
      refine g_name ?_
      unfold m__law_pot_b1 at hb22
      obtain ⟨rest_34, hx35, hb22⟩ := bindS hb22
      refine x_setI w26 (e_cb rc_abs (ea_cons (e_op rr_ixScr (e_var (R := (rScr K)) (x := script0) rfl h32) (e_var (R := rI) (x := x30) rfl rfl)) ea_nil)) (by first | (simp only [be1, bs1, ba1] at hx35 ⊢; exact hx35) | exact hx35) ?_
      intro H36 w37
      obtain ⟨many_38, hx39, hb22⟩ := bindS hb22
      refine x_setI w37 e_int hx39 ?_
      intro H40 w41
      obtain ⟨s67, hx68, hb22⟩ := bindS hb22
      refine o_cut (fun σ' H' => ∃ G' : Hp, Wo G H [] G' H' [(p5, cL rI s17)] ∧ Evl.Ex G25 G' ∧ σ' = [some vscript0, some (V.ref p5), some (V.int x30), some (V.int s67.2), some (V.int s67.1), u18]) ?_ ?_
      · obtain ⟨b43, hx72, hx68⟩ := bindS hx68
        refine x_if w41 (et_T (e_op rr_lt (e_var (R := rI) (x := rest_34) rfl rfl) (e_op rr_pow e_int e_int))) (by first | (simp only [be1, bs1, ba1] at hx72 ⊢; exact hx72) | exact hx72) ?_ ?_
        · intro hbb43 H73 w74
          subst hbb43
          have hx68 := bifT hx68
          obtain ⟨rest_83, hx84, hx68⟩ := bindS hx68
          refine x_setI w74 (e_op rr_mod (e_cb rc_intI (ea_cons (e_op rr_mul (e_op rr_add (e_op rr_mul e_int (e_var (R := rI) (x := rest_34) rfl rfl)) (e_cb rc_intB (ea_cons (e_op rr_lt (e_op rr_ixScr (e_var (R := (rScr K)) (x := script0) rfl h32) (e_var (R := rI) (x := x30) rfl rfl)) e_int) ea_nil))) (e_op rr_add e_int (e_op rr_mul e_int (e_var (R := rI) (x := x30) rfl rfl)))) ea_nil)) e_int) (by first | (simp only [be1, bs1, ba1] at hx84 ⊢; exact hx84) | exact hx84) ?_
          intro H85 w86
          obtain ⟨rest_90, hx91, hx68⟩ := bindS hx68
          refine x_setI w86 (e_op rr_mod (e_cb rc_intI (ea_cons (e_op rr_add (e_op rr_mul (e_var (R := rI) (x := rest_83) rfl rfl) (e_var (R := rI) (x := rest_83) rfl rfl)) (e_op rr_mul (e_var (R := rI) (x := rest_83) rfl rfl) (e_var (R := rI) (x := x30) rfl rfl))) ea_nil)) e_int) (by first | (simp only [be1, bs1, ba1] at hx91 ⊢; exact hx91) | exact hx91) ?_
          intro H92 w93
          obtain ⟨many_94, hx95, hx68⟩ := bindS hx68
          refine x_setI w93 e_int hx95 ?_
          intro H96 w97
          refine x_next ?_
          have hx68 : (many_94, rest_90) = s67 := Option.some.inj hx68
          subst hx68
          exact ⟨G25, w97, (Evl.Ex.refl _), rfl⟩
        · intro hbb43 H98 w99
          subst hbb43
          have hx68 := bifF hx68
          refine x_next ?_
          have hx68 : (many_38, rest_34) = s67 := Option.some.inj hx68
          subst hx68
          exact ⟨G25, w99, (Evl.Ex.refl _), rfl⟩
      · rintro σ' H102 ⟨G100, w70, e69, rfl⟩
        have h101 := Rep.mono _ e69 h32
        obtain ⟨n103, hx104, hb22⟩ := bindS hb22
        obtain ⟨xs105, hx106, hb22⟩ := bindS hb22
        obtain ⟨t108, hx109, hb22⟩ := bindS hb22
        refine x_forR w70 (ea_cons (Sim.E.is (e_var (R := rI) (x := s67.1) rfl rfl) hx104) ea_nil) rfl hx106 (fun i G' H' σ' => ∃ s110 : ((List Int) × Int), ∃ u111 : Option V, Wo G H [] G' H' [(p5, cL rI s110.1)] ∧ Evl.Ex G100 G' ∧ σ' = [some vscript0, some (V.ref p5), some (V.int x30), some (V.int s110.2), some (V.int s67.1), u111] ∧ forS (m__law_pot_b2) (xs105.drop i) s110 = some t108) ?_ ?_ ?_
        · intro G' H' w' e'
          exact ⟨(s17, s67.2), (u18), w', e', rfl, hx109⟩
        · rintro i119 x120 σ' G115 H118 hx121 ⟨s110, u111, w116, e117, rfl, hm113⟩
          obtain ⟨q114, hb112, hm113⟩ := forS_at hx121 hm113
          have h122 := Rep.mono _ e117 h101
          refine g_name ?_
          unfold m__law_pot_b2 at hb112
          obtain ⟨s134, hx135, hb112⟩ := bindS hb112
          refine o_cut (fun σ' H' => ∃ G' : Hp, Wo G H [] G' H' [(p5, cL rI s134)] ∧ Evl.Ex G115 G' ∧ σ' = [some vscript0, some (V.ref p5), some (V.int x30), some (V.int s110.2), some (V.int s67.1), some (V.int x120)]) ?_ ?_
          · obtain ⟨b123, hx139, hx135⟩ := bindS hx135
            refine x_if w116 (et_orP (et_T (e_op rr_gt (e_var (R := rI) (x := s110.2) rfl rfl) e_int)) (et_T (e_op rr_eqI (e_var (R := rI) (x := x120) rfl rfl) e_int))) hx139 ?_ ?_
            · intro hbb123 H140 w141
              subst hbb123
              have hx135 := bifT hx135
              obtain ⟨a142, hx144, hx135⟩ := bindS hx135
              obtain ⟨pot_here_143, hx145, hx135⟩ := bindS hx135
              obtain ⟨hs146, rfl⟩ := appM_ok hx145
              refine x_app (j := 0) w141 rfl hs146 rfl (e_op rr_mod (e_cb rc_intI (ea_cons (e_var (R := rI) (x := s110.2) rfl rfl) ea_nil)) e_int) (by first | (simp only [be1, bs1, ba1] at hx144 ⊢; exact hx144) | exact hx144) ?_
              intro H147 G148 w149 e150
              have h151 := Rep.mono _ e150 h122
              have w149 : Wo G H [] G148 H147 [(p5, cL rI (s110.1 ++ [a142]))] := w149
              refine x_next ?_
              have hx135 : (s110.1 ++ [a142]) = s134 := Option.some.inj hx135
              subst hx135
              exact ⟨G148, w149, e150, rfl⟩
            · intro hbb123 H152 w153
              subst hbb123
              have hx135 := bifF hx135
              refine x_next ?_
              have hx135 : s110.1 = s134 := Option.some.inj hx135
              subst hx135
              exact ⟨G115, w153, (Evl.Ex.refl _), rfl⟩
          · rintro σ' H156 ⟨G154, w137, e136, rfl⟩
            have h155 := Rep.mono _ e136 h122
            obtain ⟨rest_157, hx158, hb112⟩ := bindS hb112
            refine x_setI w137 (e_op rr_fdiv (e_var (R := rI) (x := s110.2) rfl rfl) e_int) (by first | (simp only [be1, bs1, ba1] at hx158 ⊢; exact hx158) | exact hx158) ?_
            intro H159 w160
            refine x_next ?_
            have hb112 : (s134, rest_157) = q114 := Option.some.inj hb112
            subst hb112
            exact ⟨G154, (s134, rest_157), (some (V.int x120)), w160, (e117.trans e136), rfl, hm113⟩
        · rintro σ' G161 H164 ⟨s110, u111, w162, e163, rfl, hm113⟩
          have hm113 := forS_end hm113
          subst hm113
          have h166 := Rep.mono _ e163 h101
          refine x_next ?_
          have hb22 : s110.1 = q24 := Option.some.inj hb22
          subst hb22
          exact ⟨G161, s110.1, (u111), (some (V.int s67.1)), (some (V.int x30)), (some (V.int s110.2)), w162, ((e27.trans e69).trans e163), rfl, hm23⟩
    · rintro σ' G167 H170 ⟨s17, u18, u19, u20, u21, w168, e169, rfl, hm23⟩
      have hm23 := forS_end hm23
      subst hm23
      have h172 := Rep.mono _ e169 h9
      refine x_drop ?_
      obtain ⟨pot_here_173, hx174, h⟩ := bindS h
      cases hx174
      refine o_bm0 (j := 0) w168 rfl rfl (c_rev (j := 0) w168 rfl ?_)
      intro H175 w176
      have w176 : Wo G H [] G167 H175 [(p5, cL rI s17.reverse)] := w176
      have h : s17.reverse = r := Option.some.inj h
      subst h
      refine x_retO (o_var rfl ?_)
      exact k _ _ _ n7 w176.upE (w176.sub1 (i := 0) rfl)
def m__law_draw (pot_here0 : (List Int)) (many0 : Int) : Option (Int × (List Int)) :=
  (some ((pot_here0.length : Int) == (0 : Int)) >>= fun b177 => bif b177 then (some (0 : Int) >>= fun a181 => some (a181, pot_here0)) else (popM pot_here0 >>= fun x185 => (some many0 >>= fun x192 => (modM x185.1 x192 >>= fun x196 => some (x196, x185.2)))))
theorem sc__law_draw : FnScope ["_law_pot_here", "_law_many"] ["_law_pot_here", "_law_many"] (defScope s__law_draw) := ⟨rfl, rfl, rfl, by decide +kernel, rfl, by decide +kernel, by decide +kernel⟩
theorem ok__law_draw (T : Tx K mg) : Fk P w K mg base CX0 1 "_law_draw" ["_law_pot_here", "_law_many"] (P1 (aC rI aN) rI rI (fun ys i => m__law_draw ys i.1)) := by
  obtain ⟨fd, F⟩ := T.def_ 2 rfl
  have nd := sc__law_draw.nd
  refine fk_mk T.toTx (x := "_law_draw") (T.glo 19 rfl) F (fun _ _ _ _ _ _ us hl => match us, hl with | [_, _], _ => rfl) (F.ok sc__law_draw (fun vs H Q E h => ?_) (fun cdv A outer s H vs Q E hr h => ?_))
  · obtain ⟨G, ⟨l, ⟨many0, ⟨⟩⟩⟩, pot_here0, r, k', ⟨_, _, rfl, rfl, ⟨vmany0, _, rfl, hmany0, rfl⟩⟩, wd, h, k⟩ := h
    rfl
  · obtain ⟨G, ⟨l, ⟨many0, ⟨⟩⟩⟩, pot_here0, r, k', ⟨_, _, rfl, rfl, ⟨vmany0, _, rfl, hmany0, rfl⟩⟩, wd, h, k⟩ := h
    cases hmany0
    have e0 : Evl.Ex G H := wd.ex
    have w0 : Wo G H [l] G H _ := Wo.startC wd
    have h : m__law_draw pot_here0 many0 = some (r, k') := h
    unfold m__law_draw at h
    refine ⟨_, PSs.nox (pss_cons (ps_if (pt_cmpR op_eq (pe_callB (r := rLn K) call_len_seq (by rfl) (fr_len T) (by decide +kernel) (pa_cons (pv 0) pa_nil)) pe_int (nomark _)) (pss_cons (ps_ret pe_int) pss_nil) pss_nil) (pss_cons (ps_ret (pe_op op_mod (pe_callTy call_int1 (by rfl) (fr_int T) (by decide +kernel) (pa_cons (pe_bm0 PySem.F.plainAttrs_list PySem.F.slot_list_pop PySem.F.type_list_pop mt_pop (pv 0)) pa_nil)) (pv 1))) pss_nil)), ?_⟩
    obtain ⟨b177, hx178, h⟩ := bindS h
    refine x_if w0 (et_T (e_op rr_eqI (e_cb rc_lenL (ea_cons (e_var (R := (rL rI)) (x := pot_here0) rfl (w0.rlAt (i := 0) rfl)) ea_nil)) e_int)) hx178 ?_ ?_
    · intro hbb177 H179 w180
      subst hbb177
      have h := bifT h
      obtain ⟨a181, hx182, h⟩ := bindS h
      obtain ⟨h8, h9⟩ : a181 = r ∧ pot_here0 = k' := Prod.mk.inj (Option.some.inj h)
      subst h8
      subst h9
      exact x_ret w180 e_int hx182 (fun v9 H9 G9 w9 e9 r9 => k v9 H9 G9 w9.f (w9.sub1 (i := 0) rfl) r9)
    · intro hbb177 H183 w184
      subst hbb177
      have h := bifF h
      refine x_next ?_
      refine x_retO ?_
      refine o_op ?_
      refine o_cb ?_
      refine o_cons ?_
      obtain ⟨x185, hx186, h⟩ := bindS h
      refine o_bm0 (j := 0) w184 rfl rfl (c_pop (j := 0) w184 rfl hx186 ?_)
      intro v187 H188 w189 r190
      cases r190
      have w189 : Wo G H [l] G H188 [(l, cL rI x185.2)] := w189
      refine o_nil ?_
      refine Or.inl ⟨_, rfl, ?_⟩
      obtain ⟨x192, hx193, h⟩ := bindS h
      refine c_i w189 (e_var (R := rI) (x := many0) rfl rfl) hx193 ?_
      intro H194 w195
      obtain ⟨x196, hx197, h⟩ := bindS h
      refine c_rr rr_mod w195 rfl rfl hx197 ?_
      intro u198 H199 G200 w201 e202 r203
      cases r203
      obtain ⟨h8, h9⟩ : x196 = r ∧ x185.2 = k' := Prod.mk.inj (Option.some.inj h)
      subst h8
      subst h9
      exact k _ _ _ w201.f (w201.sub1 (i := 0) rfl) rfl
def m__law_names_b2 (s223 : ((List Str) × (List Int))) (x337 : Int) (s327 : Str) : Option Str :=
  ((some (s223.1.any fun z => z == s327) >>= fun b339 => bif b339 then (addS s327 ("x" : Str) >>= fun name_352 => some name_352) else some s327) >>= fun s344 => some (s344))
def m__law_names_b1 (signs_204 : Str) (x235 : Int) (s223 : ((List Str) × (List Int))) : Option ((List Str) × (List Int)) :=
  (some signs_204 >>= fun x237 => (some (62 : Int) >>= fun x242 => (m__law_draw s223.2 x242 >>= fun x247 => (ixS x237 x247.1 >>= fun x255 => (some (4 : Int) >>= fun x264 => (m__law_draw x247.2 x264 >>= fun x269 => (mulS x255 x269.1 >>= fun x277 => (some signs_204 >>= fun x286 => (some (62 : Int) >>= fun x291 => (m__law_draw x269.2 x291 >>= fun x296 => (ixS x286 x296.1 >>= fun x304 => (addS x277 x304 >>= fun x312 => (some x235 >>= fun n320 => rngM 0 n320 >>= fun xs322 => forS (m__law_names_b2 s223) xs322 x312 >>= fun s327 => (some s327 >>= fun a365 => appM s223.1 a365 >>= fun names_here_366 => some ((names_here_366, x296.2))))))))))))))))
def m__law_names (pot_here0 : (List Int)) (many0 : Int) : Option ((List Str) × (List Int)) :=
  (some ("abcdefghijklmnopqrstuvwxyzABCDEFGHIJKLMNOPQRSTUVWXYZ0123456789" : Str) >>= fun signs_204 => (some ([]) >>= fun names_here_208 => (some many0 >>= fun n216 => rngM 0 n216 >>= fun xs218 => forS (m__law_names_b1 signs_204) xs218 (names_here_208, pot_here0) >>= fun s223 => some (s223.1, s223.2))))
theorem sc__law_names : FnScope ["_law_pot_here", "_law_many", "_law_signs", "_law_names_here", "_law_k", "_law_name", "_law_other"] ["_law_pot_here", "_law_many"] (defScope s__law_names) := ⟨rfl, rfl, rfl, by decide +kernel, rfl, by decide +kernel, by decide +kernel⟩
theorem ok__law_names (T : Tx K mg) : Fk P w K mg base CX0 2 "_law_names" ["_law_pot_here", "_law_many"] (P1L (aC rI aN) rI rS (fun ys i => m__law_names ys i.1)) := by
  obtain ⟨fd__law_draw, G__law_draw, b__law_draw, k__law_draw, g__law_draw⟩ := ok__law_draw (w := w) (base := base) T
  obtain ⟨fd, F⟩ := T.def_ 3 rfl
  have nd := sc__law_names.nd
  refine fk_mk T.toTx (x := "_law_names") (T.glo 20 rfl) F (fun _ _ _ _ _ _ us hl => match us, hl with | [_, _], _ => rfl) (F.ok sc__law_names (fun vs H Q E h => ?_) (fun cdv A outer s H vs Q E hr h => ?_))
  · obtain ⟨G, ⟨l, ⟨many0, ⟨⟩⟩⟩, pot_here0, r, k', ⟨_, _, rfl, rfl, ⟨vmany0, _, rfl, hmany0, rfl⟩⟩, wd, h, k⟩ := h
    rfl
  · obtain ⟨G, ⟨l, ⟨many0, ⟨⟩⟩⟩, pot_here0, r, k', ⟨_, _, rfl, rfl, ⟨vmany0, _, rfl, hmany0, rfl⟩⟩, wd, h, k⟩ := h
    cases hmany0
    have e0 : Evl.Ex G H := wd.ex
    have w0 : Wo G H [l] G H _ := Wo.startC wd
    have h : m__law_names pot_here0 many0 = some (r, k') := h
    unfold m__law_names at h
    refine ⟨_, PSs.nox (pss_cons (ps_set (i := 2) nd rfl (Or.inl rfl) pe_str) (pss_cons (ps_set (i := 3) nd rfl (Or.inl rfl) (pe_lst pa_nil)) (pss_cons (ps_for PassesOwn.never rfl (pi_range1 (by rfl) (fr_range T) (pa_cons (pv 1) pa_nil)) (pg_name (i := 4) nd rfl (Or.inl rfl)) (pss_cons (ps_set (i := 5) nd rfl (Or.inl rfl) (pe_op (r := rAddS) op_add_str (pe_op (r := rMulS) op_mulS (pe_ix (r := rIxS) ix_str (pv 2) (pe_call G__law_draw (hr.mono (by decide)) rfl g__law_draw k__law_draw b__law_draw .nil pass0 (pa_cons (pv 0) (pa_cons pe_int pa_nil))) (fun _ _ => rfl)) (pe_call G__law_draw (hr.mono (by decide)) rfl g__law_draw k__law_draw b__law_draw .nil pass0 (pa_cons (pv 0) (pa_cons pe_int pa_nil)))) (pe_ix (r := rIxS) ix_str (pv 2) (pe_call G__law_draw (hr.mono (by decide)) rfl g__law_draw k__law_draw b__law_draw .nil pass0 (pa_cons (pv 0) (pa_cons pe_int pa_nil))) (fun _ _ => rfl)))) (pss_cons (ps_for PassesOwn.never rfl (pi_range1 (by rfl) (fr_range T) (pa_cons (pv 4) pa_nil)) (pg_name (i := 6) nd rfl (Or.inl rfl)) (Evl.pss_cut (ps_if (pt_cmpR (r := rIn K false) op_in_seq (pv 5) (pv 3) (by rfl)) (pss_cons (ps_set (i := 5) nd rfl (Or.inl rfl) (pe_op (r := rAddS) op_add_str (pv 5) pe_str)) pss_nil) pss_nil) pss_nil)) (pss_cons (ps_expr (pe_bm PySem.F.plainAttrs_list PySem.F.slot_list_append PySem.F.type_list_append mt_append (pv 3) (pa_cons (pv 5) pa_nil))) pss_nil)))) (pss_cons (ps_ret (pv 3)) pss_nil)))), ?_⟩
    obtain ⟨signs_204, hx205, h⟩ := bindS h
    refine x_setS w0 e_str hx205 ?_
    intro H206 w207
    obtain ⟨names_here_208, hx209, h⟩ := bindS h
    refine x_setL w207 (el_disp (R := rS) eal_nil) hx209 ?_
    intro p212 H210 G213 n214 w211 e215
    obtain ⟨n216, hx217, h⟩ := bindS h
    obtain ⟨xs218, hx219, h⟩ := bindS h
    obtain ⟨t221, hx222, h⟩ := bindS h
    refine x_forR w211 (ea_cons (Sim.E.is (e_var (R := rI) (x := many0) rfl rfl) hx217) ea_nil) rfl hx219 (fun i G' H' σ' => ∃ s223 : ((List Str) × (List Int)), ∃ u224 : Option V, ∃ u225 : Option V, ∃ u226 : Option V, Wo G H [l] G' H' [(p212, cL rS s223.1), (l, cL rI s223.2)] ∧ Evl.Ex G213 G' ∧ σ' = [some (V.ref l), some (V.int many0), some (V.str signs_204), some (V.ref p212), u224, u225, u226] ∧ forS (m__law_names_b1 signs_204) (xs218.drop i) s223 = some t221) ?_ ?_ ?_
    · intro G' H' w' e'
      exact ⟨(names_here_208, pot_here0), (none), (none), (none), w', e', rfl, hx222⟩
    · rintro i234 x235 σ' G230 H233 hx236 ⟨s223, u224, u225, u226, w231, e232, rfl, hm228⟩
      obtain ⟨q229, hb227, hm228⟩ := forS_at hx236 hm228
      refine g_name ?_
      unfold m__law_names_b1 at hb227
      refine x_setO ?_
      refine o_op ?_
      refine o_op ?_
      refine o_op ?_
      obtain ⟨x237, hx238, hb227⟩ := bindS hb227
      refine c_s w231 (e_var (R := rS) (x := signs_204) rfl rfl) hx238 ?_
      intro H239 w240
      refine o_call ?_
      refine o_cons ?_
      refine o_var rfl ?_
      refine o_cons ?_
      obtain ⟨x242, hx243, hb227⟩ := bindS hb227
      refine c_i w240 e_int hx243 ?_
      intro H244 w245
      refine o_nil ?_
      obtain ⟨x247, hx248, hb227⟩ := bindS hb227
      refine c_p1 (i := 1) (j := (x242, ())) w245 rfl ⟨_, _, rfl, rfl, rfl⟩ hx248 ?_
      intro u249 H250 G251 w252 e253 r254
      cases r254
      have w252 : Wo G H [l] G251 H250 [(p212, cL rS s223.1), (l, cL rI x247.2)] := w252
      obtain ⟨x255, hx256, hb227⟩ := bindS hb227
      refine c_rr rr_ixS w252 rfl rfl hx256 ?_
      intro u257 H258 G259 w260 e261 r262
      cases r262
      refine o_call ?_
      refine o_cons ?_
      refine o_var rfl ?_
      refine o_cons ?_
      obtain ⟨x264, hx265, hb227⟩ := bindS hb227
      refine c_i w260 e_int hx265 ?_
      intro H266 w267
      refine o_nil ?_
      obtain ⟨x269, hx270, hb227⟩ := bindS hb227
      refine c_p1 (i := 1) (j := (x264, ())) w267 rfl ⟨_, _, rfl, rfl, rfl⟩ hx270 ?_
      intro u271 H272 G273 w274 e275 r276
      cases r276
      have w274 : Wo G H [l] G273 H272 [(p212, cL rS s223.1), (l, cL rI x269.2)] := w274
      obtain ⟨x277, hx278, hb227⟩ := bindS hb227
      refine c_rr rr_mulS w274 rfl rfl hx278 ?_
      intro u279 H280 G281 w282 e283 r284
      cases r284
      refine o_op ?_
      obtain ⟨x286, hx287, hb227⟩ := bindS hb227
      refine c_s w282 (e_var (R := rS) (x := signs_204) rfl rfl) hx287 ?_
      intro H288 w289
      refine o_call ?_
      refine o_cons ?_
      refine o_var rfl ?_
      refine o_cons ?_
      obtain ⟨x291, hx292, hb227⟩ := bindS hb227
      refine c_i w289 e_int hx292 ?_
      intro H293 w294
      refine o_nil ?_
      obtain ⟨x296, hx297, hb227⟩ := bindS hb227
      refine c_p1 (i := 1) (j := (x291, ())) w294 rfl ⟨_, _, rfl, rfl, rfl⟩ hx297 ?_
      intro u298 H299 G300 w301 e302 r303
      cases r303
      have w301 : Wo G H [l] G300 H299 [(p212, cL rS s223.1), (l, cL rI x296.2)] := w301
      obtain ⟨x304, hx305, hb227⟩ := bindS hb227
      refine c_rr rr_ixS w301 rfl rfl hx305 ?_
      intro u306 H307 G308 w309 e310 r311
      cases r311
      obtain ⟨x312, hx313, hb227⟩ := bindS hb227
      refine c_rr rr_addS w309 rfl rfl hx313 ?_
      intro u314 H315 G316 w317 e318 r319
      cases r319
      obtain ⟨n320, hx321, hb227⟩ := bindS hb227
      obtain ⟨xs322, hx323, hb227⟩ := bindS hb227
      obtain ⟨t325, hx326, hb227⟩ := bindS hb227
      refine x_forR w317 (ea_cons (Sim.E.is (e_var (R := rI) (x := x235) rfl rfl) hx321) ea_nil) rfl hx323 (fun i G' H' σ' => ∃ s327 : Str, ∃ u328 : Option V, Wo G H [l] G' H' [(p212, cL rS s223.1), (l, cL rI x296.2)] ∧ Evl.Ex G316 G' ∧ σ' = [some (V.ref l), some (V.int many0), some (V.str signs_204), some (V.ref p212), some (V.int x235), some (V.str s327), u328] ∧ forS (m__law_names_b2 s223) (xs322.drop i) s327 = some t325) ?_ ?_ ?_
      · intro G' H' w' e'
        exact ⟨x312, (u226), w', e', rfl, hx326⟩
      · rintro i336 x337 σ' G332 H335 hx338 ⟨s327, u328, w333, e334, rfl, hm330⟩
        obtain ⟨q331, hb329, hm330⟩ := forS_at hx338 hm330
        refine g_name ?_
        unfold m__law_names_b2 at hb329
        obtain ⟨s344, hx345, hb329⟩ := bindS hb329
        refine o_cut (fun σ' H' => ∃ G' : Hp, Wo G H [l] G' H' [(p212, cL rS s223.1), (l, cL rI x296.2)] ∧ Evl.Ex G332 G' ∧ σ' = [some (V.ref l), some (V.int many0), some (V.str signs_204), some (V.ref p212), some (V.int x235), some (V.str s344), some (V.int x337)]) ?_ ?_
        · obtain ⟨b339, hx349, hx345⟩ := bindS hx345
          refine x_if w333 (et_T (e_op (rr_inL flS) (e_var (R := rS) (x := s327) rfl rfl) (e_var (R := (rL rS)) (x := s223.1) rfl (w333.rlAt (i := 0) rfl)))) hx349 ?_ ?_
          · intro hbb339 H350 w351
            subst hbb339
            have hx345 := bifT hx345
            obtain ⟨name_352, hx353, hx345⟩ := bindS hx345
            refine x_setS w351 (e_op rr_addS (e_var (R := rS) (x := s327) rfl rfl) e_str) (by first | (simp only [be1, bs1, ba1] at hx353 ⊢; exact hx353) | exact hx353) ?_
            intro H354 w355
            refine x_next ?_
            have hx345 : name_352 = s344 := Option.some.inj hx345
            subst hx345
            exact ⟨G332, w355, (Evl.Ex.refl _), rfl⟩
          · intro hbb339 H356 w357
            subst hbb339
            have hx345 := bifF hx345
            refine x_next ?_
            have hx345 : s327 = s344 := Option.some.inj hx345
            subst hx345
            exact ⟨G332, w357, (Evl.Ex.refl _), rfl⟩
        · rintro σ' H359 ⟨G358, w347, e346, rfl⟩
          refine x_next ?_
          have hb329 : s344 = q331 := Option.some.inj hb329
          subst hb329
          exact ⟨G358, s344, (some (V.int x337)), w347, (e334.trans e346), rfl, hm330⟩
      · rintro σ' G360 H363 ⟨s327, u328, w361, e362, rfl, hm330⟩
        have hm330 := forS_end hm330
        subst hm330
        obtain ⟨a365, hx367, hb227⟩ := bindS hb227
        obtain ⟨names_here_366, hx368, hb227⟩ := bindS hb227
        obtain ⟨hs369, rfl⟩ := appM_ok hx368
        refine x_app (j := 0) w361 rfl hs369 rfl (e_var (R := rS) (x := s327) rfl rfl) hx367 ?_
        intro H370 G371 w372 e373
        have w372 : Wo G H [l] G371 H370 [(p212, cL rS (s223.1 ++ [a365])), (l, cL rI x296.2)] := w372
        refine x_next ?_
        have hb227 : ((s223.1 ++ [a365]), x296.2) = q229 := Option.some.inj hb227
        subst hb227
        exact ⟨G371, ((s223.1 ++ [a365]), x296.2), (some (V.int x235)), (some (V.str s327)), (u328), w372, (((((((((e232.trans e253).trans e261).trans e275).trans e283).trans e302).trans e310).trans e318).trans e362).trans e373), rfl, hm228⟩
    · rintro σ' G374 H377 ⟨s223, u224, u225, u226, w375, e376, rfl, hm228⟩
      have hm228 := forS_end hm228
      subst hm228
      obtain ⟨h8, h9⟩ : s223.1 = r ∧ s223.2 = k' := Prod.mk.inj (Option.some.inj h)
      subst h8
      subst h9
      refine x_retO (o_var rfl ?_)
      exact k _ _ _ n214 w375.f (w375.sub2 (i := 0) (j := 1) rfl rfl (by decide))
def m_Record___init___b1 (x404 : (Str × Int)) (s393 : (List Str)) : Option (List Str) :=
  (some (s393.any fun z => z == x404.1) >>= fun b416 => bif b416 then none else (some x404.1 >>= fun a422 => appM s393 a422 >>= fun names_423 => some (names_423)))
def m_Record___init__ (name0 : Str) (asks0 : (List (Str × Int))) (result0 : Int) : Option m_Record :=
  (some ([]) >>= fun names_379 => (some asks0 >>= fun xs388 => forS (m_Record___init___b1) xs388 names_379 >>= fun s393 => (some name0 >>= fun f439 => ((mapS (fun x449 => some (x449.1, x449.2)) asks0 >>= fun t457 => some t457) >>= fun f458 => (some result0 >>= fun f465 => some (m_Record.mk f439 f458 f465))))))
theorem sc_Record___init__ : FnScope ["self", "name", "asks", "result", "names", "asked", "answer"] ["self", "name", "asks", "result"] (defScope s_Record___init__) := ⟨rfl, rfl, rfl, by decide +kernel, rfl, by decide +kernel, by decide +kernel⟩
theorem ok_Record___init__ (T : Tx K mg) : Fm P w K mg base CX0 1 "Record" "__init__" ["self", "name", "asks", "result"] (PIs (He.ga K "Record") (aC rS (aC (rL (rP rS rI)) (aC rI aN))) (fl_Record K) (fun i => m_Record___init__ i.1 i.2.1 i.2.2.1)) := by
  obtain ⟨fd, F⟩ := T.def_ 0 rfl
  have nd := sc_Record___init__.nd
  refine fm_mk F (fun _ _ _ _ _ _ us hl => match us, hl with | [_, _, _, _], _ => rfl) (F.ok sc_Record___init__ (fun vs H Q E h => ?_) (fun cdv A outer s H vs Q E hr h => ?_))
  · obtain ⟨G, l, ld, _, ⟨name0, asks0, result0, ⟨⟩⟩, r, rfl, wd, ⟨vname0, _, rfl, hname0, vasks0, _, rfl, hasks0, vresult0, _, rfl, hresult0, rfl⟩, h, k⟩ := h
    rfl
  · obtain ⟨G, l, ld, _, ⟨name0, asks0, result0, ⟨⟩⟩, r, rfl, wd, ⟨vname0, _, rfl, hname0, vasks0, _, rfl, hasks0, vresult0, _, rfl, hresult0, rfl⟩, h, k⟩ := h
    cases hname0
    cases hresult0
    have w0 : Wo G H [l, ld] G H _ := Wo.startC wd
    have h : m_Record___init__ name0 asks0 result0 = some r := h
    unfold m_Record___init__ at h
    refine ⟨_, PSs.nox (pss_cons (ps_set (i := 4) nd rfl (Or.inl rfl) (pe_lst pa_nil)) (pss_cons (ps_for PassesOwn.never rfl (pi_list (pv 2)) (pg_tup (by rfl) (pgs_cons (pg_name (i := 5) nd rfl (by first | exact Or.inl rfl | exact Or.inr rfl)) (pgs_cons (pg_name (i := 6) nd rfl (by first | exact Or.inl rfl | exact Or.inr rfl)) pgs_nil))) (pss_cons (ps_if (pt_cmpR (r := rIn K false) op_in_seq (pv 5) (pv 4) (by rfl)) (pss_cons ps_never pss_nil) pss_nil) (pss_cons (ps_expr (pe_bm PySem.F.plainAttrs_list PySem.F.slot_list_append PySem.F.type_list_append mt_append (pv 4) (pa_cons (pv 5) pa_nil))) pss_nil))) (pss_cons (SlX.ps_sl (pv 0) (pv 1) (by rfl)) (pss_cons (SlX.ps_sl (pv 0) (pe_callTy (r := rTp K) call_tuple_of (by rfl) (fr_tuple T) (by decide +kernel) (pa_cons (pe_lc (own := [("asked", 5), ("answer", 6)]) (by rfl) nd (show L2.PI _ _ _ (iList K _) from pi_list (pv 2)) (blkOk_by (by kernel_rfl)) (fun _ _ _ _ _ => show L2.PG _ _ (gTup K 2 (gCons (gName 5) (gCons (gName 6) gNil))) from pg_tup (by rfl) (pgs_cons (pg_name (i := 5) nd rfl (by first | exact Or.inl rfl | exact Or.inr rfl)) (pgs_cons (pg_name (i := 6) nd rfl (by first | exact Or.inl rfl | exact Or.inr rfl)) pgs_nil))) (fun _ _ _ _ _ => pts_nil) (fun _ _ _ _ _ => (pe_tup (pa_cons (pv 5) (pa_cons (pv 6) pa_nil))))) pa_nil)) (by rfl)) (pss_cons (SlX.ps_sl (pv 0) (pv 3) (by rfl)) pss_nil))))), ?_⟩
    obtain ⟨names_379, hx380, h⟩ := bindS h
    refine x_setL w0 (el_disp (R := rS) eal_nil) hx380 ?_
    intro p383 H381 G384 n385 w382 e386
    have h387 := Rep.mono _ e386 hasks0
    obtain ⟨xs388, hx389, h⟩ := bindS h
    obtain ⟨t391, hx392, h⟩ := bindS h
    refine x_forL w382 (e_var (R := (rL (rP rS rI))) (x := asks0) rfl h387) hx389 (fun i G' H' σ' => ∃ s393 : (List Str), ∃ u394 : Option V, ∃ u395 : Option V, Wo G H [l, ld] G' H' [(p383, cL rS s393), (l, cN (He.ga K "Record") ld), (ld, cOw l)] ∧ Evl.Ex G384 G' ∧ σ' = [some (V.ref l), some (V.str name0), some vasks0, some (V.int result0), some (V.ref p383), u395, u394] ∧ forS (m_Record___init___b1) (xs388.drop i) s393 = some t391) (fun _ _ _ _ ⟨_, _, _, w, _⟩ => w.ex) ?_ ?_ ?_
    · intro G' H' w' e'
      exact ⟨names_379, (none), (none), w', e', rfl, hx392⟩
    · rintro G406 e407 i403 x404 v408 σ' G399 H402 hx405 e410 ⟨s393, u394, u395, w400, e401, rfl, hm397⟩ r409
      obtain ⟨q398, hb396, hm397⟩ := forS_at hx405 hm397
      have h411 := Rep.mono _ e401 h387
      refine g_pair (i := 5) (j := 6) r409 w400.ex ?_
      intro v412 v413 r414 r415
      cases r414
      cases r415
      unfold m_Record___init___b1 at hb396
      obtain ⟨b416, hx417, hb396⟩ := bindS hb396
      refine x_if w400 (et_T (e_op (rr_inL flS) (e_var (R := rS) (x := x404.1) rfl rfl) (e_var (R := (rL rS)) (x := s393) rfl (w400.rlAt (i := 0) rfl)))) hx417 ?_ ?_
      · intro hbb416 H418 w419
        subst hbb416
        have hb396 := bifT hb396
        cases (show none = some _ from hb396)
      · intro hbb416 H420 w421
        subst hbb416
        have hb396 := bifF hb396
        refine x_next ?_
        obtain ⟨a422, hx424, hb396⟩ := bindS hb396
        obtain ⟨names_423, hx425, hb396⟩ := bindS hb396
        obtain ⟨hs426, rfl⟩ := appM_ok hx425
        refine x_app (j := 0) w421 rfl hs426 rfl (e_var (R := rS) (x := x404.1) rfl rfl) hx424 ?_
        intro H427 G428 w429 e430
        have h431 := Rep.mono _ e430 h411
        have w429 : Wo G H [l, ld] G428 H427 [(p383, cL rS (s393 ++ [a422])), (l, cN (He.ga K "Record") ld), (ld, cOw l)] := w429
        refine x_next ?_
        have hb396 : (s393 ++ [a422]) = q398 := Option.some.inj hb396
        subst hb396
        exact ⟨G428, (e410.trans e430), (s393 ++ [a422]), (some (V.int x404.2)), (some (V.str x404.1)), w429, (e401.trans e430), rfl, hm397⟩
    · rintro σ' G432 H435 e436 ⟨s393, u394, u395, w433, e434, rfl, hm397⟩
      have hm397 := forS_end hm397
      subst hm397
      have h438 := Rep.mono _ e434 h387
      obtain ⟨f439, hx440, h⟩ := bindS h
      refine x_sl1 (j := 1) (j2 := 2) w433 rfl rfl rfl (e_var (R := rS) (x := name0) rfl rfl) hx440 (scl_ok (T.mo 0 rfl)) (slot_ok (T.mo 1 rfl)) (by decide) ?_
      intro H441 G442 w443 e444
      have h445 := Rep.mono _ e444 h438
      have w443 : Wo G H [l, ld] G442 H441 [(p383, cL rS s393), (l, cSl l (He.ga K "Record") ld [(1, pd rS f439)]), (ld, cXd)] := w443
      obtain ⟨f458, hx459, h⟩ := bindS h
      refine x_slN (j := 1) (j2 := 2) w443 rfl rfl rfl (e_cb rc_tupleL (ea_cons (EL.e (el_map (el_lcP (j := 6) (e_var (R := (rL (rP rS rI))) (x := asks0) rfl h445) (fun _ _ => rfl) (fun _ _ _ _ _ _ _ _ _ _ => et_yes) (fun x449 v452 v453 G450 W451 eG446 eW447 eX448 h454 h455 => (e_pair (e_var (R := rS) (x := x449.1) rfl h454) (e_var (R := rI) (x := x449.2) rfl h455)))))) ea_nil)) (by first | (simp only [be1, bs1, ba1] at hx459 ⊢; exact hx459) | exact hx459) (scl_ok (T.mo 0 rfl)) (slot_ok (T.mo 2 rfl)) (by decide) (by simp) ?_
      intro H460 G461 w462 e463
      have h464 := Rep.mono _ e463 h445
      have w462 : Wo G H [l, ld] G461 H460 [(p383, cL rS s393), (l, cSl l (He.ga K "Record") ld [(1, pd rS f439), (0, pd (rT (rP rS rI)) f458)]), (ld, cXd)] := w462
      obtain ⟨f465, hx466, h⟩ := bindS h
      refine x_slN (j := 1) (j2 := 2) w462 rfl rfl rfl (e_var (R := rI) (x := result0) rfl rfl) hx466 (scl_ok (T.mo 0 rfl)) (slot_ok (T.mo 3 rfl)) (by decide) (by simp) ?_
      intro H467 G468 w469 e470
      have h471 := Rep.mono _ e470 h464
      have w469 : Wo G H [l, ld] G468 H467 [(p383, cL rS s393), (l, cSl l (He.ga K "Record") ld [(1, pd rS f439), (0, pd (rT (rP rS rI)) f458), (2, pd rI f465)]), (ld, cXd)] := w469
      refine x_next ?_
      have h : (m_Record.mk f439 f458 f465) = r := Option.some.inj h
      subst h
      exact k _ _ w469.f (w469.sub2 (i := 1) (j := 2) rfl rfl (by decide))
def m__law_raised (kind0 : Int) (one0 : Int) (two0 : Int) (names_here0 : (List Str)) (records0 : (List Addr)) : Option (Xn ⊕ Unit) :=
  (some (kind0 == (0 : Int)) >>= fun b472 => bif b472 then (some one0 >>= fun a476 => some (Sum.inl ⟨"BadSize", [("size", .int a476)]⟩ : Xn ⊕ Unit)) else (some (kind0 == (1 : Int)) >>= fun b480 => bif b480 then (some one0 >>= fun a484 => some (Sum.inl ⟨"NotElement", [("value", .int a484)]⟩ : Xn ⊕ Unit)) else (some (kind0 == (2 : Int)) >>= fun b488 => bif b488 then (some one0 >>= fun a492 => (some two0 >>= fun a493 => some (Sum.inl ⟨"Ring", [("first", .int a492), ("second", .int a493)]⟩ : Xn ⊕ Unit))) else (some (kind0 == (3 : Int)) >>= fun b498 => bif b498 then (some one0 >>= fun a502 => (some two0 >>= fun a503 => some (Sum.inl ⟨"NoJoin", [("first", .int a502), ("second", .int a503)]⟩ : Xn ⊕ Unit))) else (some (kind0 == (4 : Int)) >>= fun b508 => bif b508 then (some one0 >>= fun a512 => (some two0 >>= fun a513 => some (Sum.inl ⟨"NoMeet", [("first", .int a512), ("second", .int a513)]⟩ : Xn ⊕ Unit))) else (some (kind0 == (5 : Int)) >>= fun b518 => bif b518 then (atI names_here0 (0 : Int) >>= fun a522 => some (Sum.inl ⟨"AskedTwice", [("name", .str a522)]⟩ : Xn ⊕ Unit)) else (some (kind0 == (6 : Int)) >>= fun b526 => bif b526 then (atI names_here0 (0 : Int) >>= fun a530 => some (Sum.inl ⟨"Unanswered", [("name", .str a530)]⟩ : Xn ⊕ Unit)) else (some (kind0 == (7 : Int)) >>= fun b534 => bif b534 then (some one0 >>= fun a538 => some (Sum.inl ⟨"TooMany", [("most", .int a538)]⟩ : Xn ⊕ Unit)) else (some (kind0 == (8 : Int)) >>= fun b542 => bif b542 then (atI names_here0 (0 : Int) >>= fun a546 => some (Sum.inl ⟨"NoSide", [("name", .str a546)]⟩ : Xn ⊕ Unit)) else (some (kind0 == (9 : Int)) >>= fun b550 => bif b550 then (atI records0 (0 : Int) >>= fun a554 => (atI records0 (1 : Int) >>= fun a555 => (some ("values" : Str) >>= fun a556 => some (Sum.inl ⟨"Clash", [("first", .adr a554), ("second", .adr a555), ("kind", .str a556)]⟩ : Xn ⊕ Unit)))) else (some (kind0 == (10 : Int)) >>= fun b562 => bif b562 then some (Sum.inl ⟨"OtherOrder", []⟩ : Xn ⊕ Unit) else (some (kind0 == (11 : Int)) >>= fun b568 => bif b568 then (((atI names_here0 (0 : Int) >>= fun t572 => (atI names_here0 (1 : Int) >>= fun t573 => some (t572, t573))) >>= fun t574 => some ([t574.1, t574.2])) >>= fun a575 => some (Sum.inl ⟨"NotSettled", [("wanted", .txs a575)]⟩ : Xn ⊕ Unit)) else (some (kind0 == (12 : Int)) >>= fun b579 => bif b579 then (atI names_here0 (0 : Int) >>= fun a583 => some (Sum.inl ⟨"NotDue", [("name", .str a583)]⟩ : Xn ⊕ Unit)) else (some (kind0 == (13 : Int)) >>= fun b587 => bif b587 then (some one0 >>= fun a591 => some (Sum.inl ⟨"OverLimit", [("most", .int a591)]⟩ : Xn ⊕ Unit)) else (some one0 >>= fun a595 => some (Sum.inl ⟨"BadLimit", [("most", .int a595)]⟩ : Xn ⊕ Unit))))))))))))))))
theorem sc__law_raised : FnScope ["_law_kind", "_law_one", "_law_two", "_law_names_here", "_law_records"] ["_law_kind", "_law_one", "_law_two", "_law_names_here", "_law_records"] (defScope s__law_raised) := ⟨rfl, rfl, rfl, by decide +kernel, rfl, by decide +kernel, by decide +kernel⟩
theorem ok__law_raised (T : Tx K mg) : Fk P w K mg base (L2.CX P w) 3 "_law_raised" ["_law_kind", "_law_one", "_law_two", "_law_names_here", "_law_records"] (PX K (aC rI (aC rI (aC rI (aC (rL rS) (aC (rL rA) aN))))) rU (fun i => m__law_raised i.1 i.2.1 i.2.2.1 i.2.2.2.1 i.2.2.2.2.1)) := by
  obtain ⟨fI_BadSize, b_BadSize, F_BadSize⟩ := okx_BadSize (w := w) (base := base) T
  have Y_BadSize := known_BadSize T
  have g_BadSize := T.glo 2 rfl
  obtain ⟨fI_NotElement, b_NotElement, F_NotElement⟩ := okx_NotElement (w := w) (base := base) T
  have Y_NotElement := known_NotElement T
  have g_NotElement := T.glo 3 rfl
  obtain ⟨fI_Ring, b_Ring, F_Ring⟩ := okx_Ring (w := w) (base := base) T
  have Y_Ring := known_Ring T
  have g_Ring := T.glo 4 rfl
  obtain ⟨fI_NoJoin, b_NoJoin, F_NoJoin⟩ := okx_NoJoin (w := w) (base := base) T
  have Y_NoJoin := known_NoJoin T
  have g_NoJoin := T.glo 5 rfl
  obtain ⟨fI_NoMeet, b_NoMeet, F_NoMeet⟩ := okx_NoMeet (w := w) (base := base) T
  have Y_NoMeet := known_NoMeet T
  have g_NoMeet := T.glo 6 rfl
  obtain ⟨fI_AskedTwice, b_AskedTwice, F_AskedTwice⟩ := okx_AskedTwice (w := w) (base := base) T
  have Y_AskedTwice := known_AskedTwice T
  have g_AskedTwice := T.glo 7 rfl
  obtain ⟨fI_Unanswered, b_Unanswered, F_Unanswered⟩ := okx_Unanswered (w := w) (base := base) T
  have Y_Unanswered := known_Unanswered T
  have g_Unanswered := T.glo 8 rfl
  obtain ⟨fI_TooMany, b_TooMany, F_TooMany⟩ := okx_TooMany (w := w) (base := base) T
  have Y_TooMany := known_TooMany T
  have g_TooMany := T.glo 9 rfl
  obtain ⟨fI_NoSide, b_NoSide, F_NoSide⟩ := okx_NoSide (w := w) (base := base) T
  have Y_NoSide := known_NoSide T
  have g_NoSide := T.glo 10 rfl
  obtain ⟨fI_Clash, b_Clash, F_Clash⟩ := okx_Clash (w := w) (base := base) T
  have Y_Clash := known_Clash T
  have g_Clash := T.glo 11 rfl
  obtain ⟨fI_NotSettled, b_NotSettled, F_NotSettled⟩ := okx_NotSettled (w := w) (base := base) T
  have Y_NotSettled := known_NotSettled T
  have g_NotSettled := T.glo 13 rfl
  obtain ⟨fI_NotDue, b_NotDue, F_NotDue⟩ := okx_NotDue (w := w) (base := base) T
  have Y_NotDue := known_NotDue T
  have g_NotDue := T.glo 14 rfl
  obtain ⟨fI_OverLimit, b_OverLimit, F_OverLimit⟩ := okx_OverLimit (w := w) (base := base) T
  have Y_OverLimit := known_OverLimit T
  have g_OverLimit := T.glo 15 rfl
  obtain ⟨fI_BadLimit, b_BadLimit, F_BadLimit⟩ := okx_BadLimit (w := w) (base := base) T
  have Y_BadLimit := known_BadLimit T
  have g_BadLimit := T.glo 16 rfl
  obtain ⟨fd, F⟩ := T.def_ 4 rfl
  have nd := sc__law_raised.nd
  refine fk_mk T.toTx (x := "_law_raised") (T.glo 21 rfl) F (fun _ _ _ _ _ _ us hl => match us, hl with | [_, _, _, _, _], _ => rfl) (F.ok sc__law_raised (fun vs H Q E h => ?_) (fun cdv A outer s H vs Q E hr h => ?_))
  · obtain ⟨G, ⟨kind0, one0, two0, names_here0, records0, ⟨⟩⟩, r, e0, ⟨vkind0, _, rfl, hkind0, vone0, _, rfl, hone0, vtwo0, _, rfl, htwo0, vnames_here0, _, rfl, hnames_here0, vrecords0, _, rfl, hrecords0, rfl⟩, h, kx, k⟩ := h
    rfl
  · obtain ⟨G, ⟨kind0, one0, two0, names_here0, records0, ⟨⟩⟩, r, e0, ⟨vkind0, _, rfl, hkind0, vone0, _, rfl, hone0, vtwo0, _, rfl, htwo0, vnames_here0, _, rfl, hnames_here0, vrecords0, _, rfl, hrecords0, rfl⟩, h, kx, k⟩ := h
    cases hkind0
    cases hone0
    cases htwo0
    have w0 := Wo.start e0
    have h : m__law_raised kind0 one0 two0 names_here0 records0 = some r := h
    unfold m__law_raised at h
    have tk := takes_of (X := cxOf (L2.CX P w) P w K mg base ["_law_kind", "_law_one", "_law_two", "_law_names_here", "_law_records"] "_law_raised" (defScope s__law_raised) (He.fAd K ("_law_raised", none)) cdv A outer s H E) rfl rfl rfl (E := E) rfl
    refine ⟨_, (pss_cons (ps_if (pt_cmpR op_eq (pv 0) pe_int (nomark _)) (pss_cons (ps_raise rfl tk (pmk_oex Y_BadSize.oex Y_BadSize.ini Y_BadSize.ty F_BadSize (hr.mono (by decide)) b_BadSize .nil pass0 rfl g_BadSize (pa_cons (pv 1) pa_nil))) pss_nil) pss_nil) (pss_cons (ps_if (pt_cmpR op_eq (pv 0) pe_int (nomark _)) (pss_cons (ps_raise rfl tk (pmk_oex Y_NotElement.oex Y_NotElement.ini Y_NotElement.ty F_NotElement (hr.mono (by decide)) b_NotElement .nil pass0 rfl g_NotElement (pa_cons (pv 1) pa_nil))) pss_nil) pss_nil) (pss_cons (ps_if (pt_cmpR op_eq (pv 0) pe_int (nomark _)) (pss_cons (ps_raise rfl tk (pmk_oex Y_Ring.oex Y_Ring.ini Y_Ring.ty F_Ring (hr.mono (by decide)) b_Ring .nil pass0 rfl g_Ring (pa_cons (pv 1) (pa_cons (pv 2) pa_nil)))) pss_nil) pss_nil) (pss_cons (ps_if (pt_cmpR op_eq (pv 0) pe_int (nomark _)) (pss_cons (ps_raise rfl tk (pmk_oex Y_NoJoin.oex Y_NoJoin.ini Y_NoJoin.ty F_NoJoin (hr.mono (by decide)) b_NoJoin .nil pass0 rfl g_NoJoin (pa_cons (pv 1) (pa_cons (pv 2) pa_nil)))) pss_nil) pss_nil) (pss_cons (ps_if (pt_cmpR op_eq (pv 0) pe_int (nomark _)) (pss_cons (ps_raise rfl tk (pmk_oex Y_NoMeet.oex Y_NoMeet.ini Y_NoMeet.ty F_NoMeet (hr.mono (by decide)) b_NoMeet .nil pass0 rfl g_NoMeet (pa_cons (pv 1) (pa_cons (pv 2) pa_nil)))) pss_nil) pss_nil) (pss_cons (ps_if (pt_cmpR op_eq (pv 0) pe_int (nomark _)) (pss_cons (ps_raise rfl tk (pmk_oex Y_AskedTwice.oex Y_AskedTwice.ini Y_AskedTwice.ty F_AskedTwice (hr.mono (by decide)) b_AskedTwice .nil pass0 rfl g_AskedTwice (pa_cons (pe_ix (r := rIxL K) ix_list (pv 3) pe_int (fun _ _ => rfl)) pa_nil))) pss_nil) pss_nil) (pss_cons (ps_if (pt_cmpR op_eq (pv 0) pe_int (nomark _)) (pss_cons (ps_raise rfl tk (pmk_oex Y_Unanswered.oex Y_Unanswered.ini Y_Unanswered.ty F_Unanswered (hr.mono (by decide)) b_Unanswered .nil pass0 rfl g_Unanswered (pa_cons (pe_ix (r := rIxL K) ix_list (pv 3) pe_int (fun _ _ => rfl)) pa_nil))) pss_nil) pss_nil) (pss_cons (ps_if (pt_cmpR op_eq (pv 0) pe_int (nomark _)) (pss_cons (ps_raise rfl tk (pmk_oex Y_TooMany.oex Y_TooMany.ini Y_TooMany.ty F_TooMany (hr.mono (by decide)) b_TooMany .nil pass0 rfl g_TooMany (pa_cons (pv 1) pa_nil))) pss_nil) pss_nil) (pss_cons (ps_if (pt_cmpR op_eq (pv 0) pe_int (nomark _)) (pss_cons (ps_raise rfl tk (pmk_oex Y_NoSide.oex Y_NoSide.ini Y_NoSide.ty F_NoSide (hr.mono (by decide)) b_NoSide .nil pass0 rfl g_NoSide (pa_cons (pe_ix (r := rIxL K) ix_list (pv 3) pe_int (fun _ _ => rfl)) pa_nil))) pss_nil) pss_nil) (pss_cons (ps_if (pt_cmpR op_eq (pv 0) pe_int (nomark _)) (pss_cons (ps_raise rfl tk (pmk_oex Y_Clash.oex Y_Clash.ini Y_Clash.ty F_Clash (hr.mono (by decide)) b_Clash .nil pass0 rfl g_Clash (pa_cons (pe_ix (r := rIxL K) ix_list (pv 4) pe_int (fun _ _ => rfl)) (pa_cons (pe_ix (r := rIxL K) ix_list (pv 4) pe_int (fun _ _ => rfl)) (pa_cons pe_str pa_nil))))) pss_nil) pss_nil) (pss_cons (ps_if (pt_cmpR op_eq (pv 0) pe_int (nomark _)) (pss_cons (ps_raise rfl tk (pmk_none (T.mo 4 rfl) (T.glo 12 rfl) rfl)) pss_nil) pss_nil) (pss_cons (ps_if (pt_cmpR op_eq (pv 0) pe_int (nomark _)) (pss_cons (ps_raise rfl tk (pmk_oex Y_NotSettled.oex Y_NotSettled.ini Y_NotSettled.ty F_NotSettled (hr.mono (by decide)) b_NotSettled .nil pass0 rfl g_NotSettled (pa_cons (pe_tup (pa_cons (pe_ix (r := rIxL K) ix_list (pv 3) pe_int (fun _ _ => rfl)) (pa_cons (pe_ix (r := rIxL K) ix_list (pv 3) pe_int (fun _ _ => rfl)) pa_nil))) pa_nil))) pss_nil) pss_nil) (pss_cons (ps_if (pt_cmpR op_eq (pv 0) pe_int (nomark _)) (pss_cons (ps_raise rfl tk (pmk_oex Y_NotDue.oex Y_NotDue.ini Y_NotDue.ty F_NotDue (hr.mono (by decide)) b_NotDue .nil pass0 rfl g_NotDue (pa_cons (pe_ix (r := rIxL K) ix_list (pv 3) pe_int (fun _ _ => rfl)) pa_nil))) pss_nil) pss_nil) (pss_cons (ps_if (pt_cmpR op_eq (pv 0) pe_int (nomark _)) (pss_cons (ps_raise rfl tk (pmk_oex Y_OverLimit.oex Y_OverLimit.ini Y_OverLimit.ty F_OverLimit (hr.mono (by decide)) b_OverLimit .nil pass0 rfl g_OverLimit (pa_cons (pv 1) pa_nil))) pss_nil) pss_nil) (pss_cons (ps_raise rfl tk (pmk_oex Y_BadLimit.oex Y_BadLimit.ini Y_BadLimit.ty F_BadLimit (hr.mono (by decide)) b_BadLimit .nil pass0 rfl g_BadLimit (pa_cons (pv 1) pa_nil))) pss_nil))))))))))))))), ?_⟩
    obtain ⟨b472, hx473, h⟩ := bindS h
    refine x_if w0 (et_T (e_op rr_eqI (e_var (R := rI) (x := kind0) rfl rfl) e_int)) hx473 ?_ ?_
    · intro hbb472 H474 w475
      subst hbb472
      have h := bifT h
      obtain ⟨a476, hx477, h⟩ := bindS h
      have h : (Sum.inl ⟨"BadSize", [("size", .int a476)]⟩ : Xn ⊕ Unit) = r := Option.some.inj h
      subst h
      refine x_raise (A := (aC rI aN)) (i := (a476, ())) w475 (ea_cons (e_var (R := rI) (x := one0) rfl rfl) ea_nil) (by first | (simp only [hx477, Option.bind_eq_bind, Option.bind_some]; done) | (cases hx477; rfl) | (simp only [Option.bind_eq_bind] at hx477 ⊢; simp only [hx477, Option.bind_some])) (fun G9 vs9 r9 => by obtain ⟨u0, _, rfl, q0, rfl⟩ := r9; exact ⟨rfl, by simp⟩) ?_
      intro vs9 H9 G9 d9 w9 r9 e9 hd9
      obtain ⟨u0, _, rfl, q0, rfl⟩ := r9
      exact kx _ rfl (some d9) H9 G9 w9.upE (Xat_mk (names := ["size"]) (xs := [.int a476]) (by decide) hd9 (.cons q0 .nil))
    · intro hbb472 H478 w479
      subst hbb472
      have h := bifF h
      refine x_next ?_
      obtain ⟨b480, hx481, h⟩ := bindS h
      refine x_if w479 (et_T (e_op rr_eqI (e_var (R := rI) (x := kind0) rfl rfl) e_int)) hx481 ?_ ?_
      · intro hbb480 H482 w483
        subst hbb480
        have h := bifT h
        obtain ⟨a484, hx485, h⟩ := bindS h
        have h : (Sum.inl ⟨"NotElement", [("value", .int a484)]⟩ : Xn ⊕ Unit) = r := Option.some.inj h
        subst h
        refine x_raise (A := (aC rI aN)) (i := (a484, ())) w483 (ea_cons (e_var (R := rI) (x := one0) rfl rfl) ea_nil) (by first | (simp only [hx485, Option.bind_eq_bind, Option.bind_some]; done) | (cases hx485; rfl) | (simp only [Option.bind_eq_bind] at hx485 ⊢; simp only [hx485, Option.bind_some])) (fun G9 vs9 r9 => by obtain ⟨u0, _, rfl, q0, rfl⟩ := r9; exact ⟨rfl, by simp⟩) ?_
        intro vs9 H9 G9 d9 w9 r9 e9 hd9
        obtain ⟨u0, _, rfl, q0, rfl⟩ := r9
        exact kx _ rfl (some d9) H9 G9 w9.upE (Xat_mk (names := ["value"]) (xs := [.int a484]) (by decide) hd9 (.cons q0 .nil))
      · intro hbb480 H486 w487
        subst hbb480
        have h := bifF h
        refine x_next ?_
        obtain ⟨b488, hx489, h⟩ := bindS h
        refine x_if w487 (et_T (e_op rr_eqI (e_var (R := rI) (x := kind0) rfl rfl) e_int)) hx489 ?_ ?_
        · intro hbb488 H490 w491
          subst hbb488
          have h := bifT h
          obtain ⟨a492, hx494, h⟩ := bindS h
          obtain ⟨a493, hx495, h⟩ := bindS h
          have h : (Sum.inl ⟨"Ring", [("first", .int a492), ("second", .int a493)]⟩ : Xn ⊕ Unit) = r := Option.some.inj h
          subst h
          refine x_raise (A := (aC rI (aC rI aN))) (i := (a492, (a493, ()))) w491 (ea_cons (e_var (R := rI) (x := one0) rfl rfl) (ea_cons (e_var (R := rI) (x := two0) rfl rfl) ea_nil)) (by first | (simp only [hx494, hx495, Option.bind_eq_bind, Option.bind_some]; done) | (cases hx494; cases hx495; rfl) | (simp only [Option.bind_eq_bind] at hx494 hx495 ⊢; simp only [hx494, hx495, Option.bind_some])) (fun G9 vs9 r9 => by obtain ⟨u0, _, rfl, q0, u1, _, rfl, q1, rfl⟩ := r9; exact ⟨rfl, by simp⟩) ?_
          intro vs9 H9 G9 d9 w9 r9 e9 hd9
          obtain ⟨u0, _, rfl, q0, u1, _, rfl, q1, rfl⟩ := r9
          exact kx _ rfl (some d9) H9 G9 w9.upE (Xat_mk (names := ["first", "second"]) (xs := [.int a492, .int a493]) (by decide) hd9 (.cons q0 (.cons q1 .nil)))
        · intro hbb488 H496 w497
          subst hbb488
          have h := bifF h
          refine x_next ?_
          obtain ⟨b498, hx499, h⟩ := bindS h
          refine x_if w497 (et_T (e_op rr_eqI (e_var (R := rI) (x := kind0) rfl rfl) e_int)) hx499 ?_ ?_
          · intro hbb498 H500 w501
            subst hbb498
            have h := bifT h
            obtain ⟨a502, hx504, h⟩ := bindS h
            obtain ⟨a503, hx505, h⟩ := bindS h
            have h : (Sum.inl ⟨"NoJoin", [("first", .int a502), ("second", .int a503)]⟩ : Xn ⊕ Unit) = r := Option.some.inj h
            subst h
            refine x_raise (A := (aC rI (aC rI aN))) (i := (a502, (a503, ()))) w501 (ea_cons (e_var (R := rI) (x := one0) rfl rfl) (ea_cons (e_var (R := rI) (x := two0) rfl rfl) ea_nil)) (by first | (simp only [hx504, hx505, Option.bind_eq_bind, Option.bind_some]; done) | (cases hx504; cases hx505; rfl) | (simp only [Option.bind_eq_bind] at hx504 hx505 ⊢; simp only [hx504, hx505, Option.bind_some])) (fun G9 vs9 r9 => by obtain ⟨u0, _, rfl, q0, u1, _, rfl, q1, rfl⟩ := r9; exact ⟨rfl, by simp⟩) ?_
            intro vs9 H9 G9 d9 w9 r9 e9 hd9
            obtain ⟨u0, _, rfl, q0, u1, _, rfl, q1, rfl⟩ := r9
            exact kx _ rfl (some d9) H9 G9 w9.upE (Xat_mk (names := ["first", "second"]) (xs := [.int a502, .int a503]) (by decide) hd9 (.cons q0 (.cons q1 .nil)))
          · intro hbb498 H506 w507
            subst hbb498
            have h := bifF h
            refine x_next ?_
            obtain ⟨b508, hx509, h⟩ := bindS h
            refine x_if w507 (et_T (e_op rr_eqI (e_var (R := rI) (x := kind0) rfl rfl) e_int)) hx509 ?_ ?_
            · intro hbb508 H510 w511
              subst hbb508
              have h := bifT h
              obtain ⟨a512, hx514, h⟩ := bindS h
              obtain ⟨a513, hx515, h⟩ := bindS h
              have h : (Sum.inl ⟨"NoMeet", [("first", .int a512), ("second", .int a513)]⟩ : Xn ⊕ Unit) = r := Option.some.inj h
              subst h
              refine x_raise (A := (aC rI (aC rI aN))) (i := (a512, (a513, ()))) w511 (ea_cons (e_var (R := rI) (x := one0) rfl rfl) (ea_cons (e_var (R := rI) (x := two0) rfl rfl) ea_nil)) (by first | (simp only [hx514, hx515, Option.bind_eq_bind, Option.bind_some]; done) | (cases hx514; cases hx515; rfl) | (simp only [Option.bind_eq_bind] at hx514 hx515 ⊢; simp only [hx514, hx515, Option.bind_some])) (fun G9 vs9 r9 => by obtain ⟨u0, _, rfl, q0, u1, _, rfl, q1, rfl⟩ := r9; exact ⟨rfl, by simp⟩) ?_
              intro vs9 H9 G9 d9 w9 r9 e9 hd9
              obtain ⟨u0, _, rfl, q0, u1, _, rfl, q1, rfl⟩ := r9
              exact kx _ rfl (some d9) H9 G9 w9.upE (Xat_mk (names := ["first", "second"]) (xs := [.int a512, .int a513]) (by decide) hd9 (.cons q0 (.cons q1 .nil)))
            · intro hbb508 H516 w517
              subst hbb508
              have h := bifF h
              refine x_next ?_
              obtain ⟨b518, hx519, h⟩ := bindS h
              refine x_if w517 (et_T (e_op rr_eqI (e_var (R := rI) (x := kind0) rfl rfl) e_int)) hx519 ?_ ?_
              · intro hbb518 H520 w521
                subst hbb518
                have h := bifT h
                obtain ⟨a522, hx523, h⟩ := bindS h
                have h : (Sum.inl ⟨"AskedTwice", [("name", .str a522)]⟩ : Xn ⊕ Unit) = r := Option.some.inj h
                subst h
                refine x_raise (A := (aC rS aN)) (i := (a522, ())) w521 (ea_cons (e_op rr_ixL (e_var (R := (rL rS)) (x := names_here0) rfl hnames_here0) e_int) ea_nil) (by first | (simp only [hx523, Option.bind_eq_bind, Option.bind_some]; done) | (cases hx523; rfl) | (simp only [Option.bind_eq_bind] at hx523 ⊢; simp only [hx523, Option.bind_some])) (fun G9 vs9 r9 => by obtain ⟨u0, _, rfl, q0, rfl⟩ := r9; exact ⟨rfl, by simp⟩) ?_
                intro vs9 H9 G9 d9 w9 r9 e9 hd9
                obtain ⟨u0, _, rfl, q0, rfl⟩ := r9
                exact kx _ rfl (some d9) H9 G9 w9.upE (Xat_mk (names := ["name"]) (xs := [.str a522]) (by decide) hd9 (.cons q0 .nil))
              · intro hbb518 H524 w525
                subst hbb518
                have h := bifF h
                refine x_next ?_
                obtain ⟨b526, hx527, h⟩ := bindS h
                refine x_if w525 (et_T (e_op rr_eqI (e_var (R := rI) (x := kind0) rfl rfl) e_int)) hx527 ?_ ?_
                · intro hbb526 H528 w529
                  subst hbb526
                  have h := bifT h
                  obtain ⟨a530, hx531, h⟩ := bindS h
                  have h : (Sum.inl ⟨"Unanswered", [("name", .str a530)]⟩ : Xn ⊕ Unit) = r := Option.some.inj h
                  subst h
                  refine x_raise (A := (aC rS aN)) (i := (a530, ())) w529 (ea_cons (e_op rr_ixL (e_var (R := (rL rS)) (x := names_here0) rfl hnames_here0) e_int) ea_nil) (by first | (simp only [hx531, Option.bind_eq_bind, Option.bind_some]; done) | (cases hx531; rfl) | (simp only [Option.bind_eq_bind] at hx531 ⊢; simp only [hx531, Option.bind_some])) (fun G9 vs9 r9 => by obtain ⟨u0, _, rfl, q0, rfl⟩ := r9; exact ⟨rfl, by simp⟩) ?_
                  intro vs9 H9 G9 d9 w9 r9 e9 hd9
                  obtain ⟨u0, _, rfl, q0, rfl⟩ := r9
                  exact kx _ rfl (some d9) H9 G9 w9.upE (Xat_mk (names := ["name"]) (xs := [.str a530]) (by decide) hd9 (.cons q0 .nil))
                · intro hbb526 H532 w533
                  subst hbb526
                  have h := bifF h
                  refine x_next ?_
                  obtain ⟨b534, hx535, h⟩ := bindS h
                  refine x_if w533 (et_T (e_op rr_eqI (e_var (R := rI) (x := kind0) rfl rfl) e_int)) hx535 ?_ ?_
                  · intro hbb534 H536 w537
                    subst hbb534
                    have h := bifT h
                    obtain ⟨a538, hx539, h⟩ := bindS h
                    have h : (Sum.inl ⟨"TooMany", [("most", .int a538)]⟩ : Xn ⊕ Unit) = r := Option.some.inj h
                    subst h
                    refine x_raise (A := (aC rI aN)) (i := (a538, ())) w537 (ea_cons (e_var (R := rI) (x := one0) rfl rfl) ea_nil) (by first | (simp only [hx539, Option.bind_eq_bind, Option.bind_some]; done) | (cases hx539; rfl) | (simp only [Option.bind_eq_bind] at hx539 ⊢; simp only [hx539, Option.bind_some])) (fun G9 vs9 r9 => by obtain ⟨u0, _, rfl, q0, rfl⟩ := r9; exact ⟨rfl, by simp⟩) ?_
                    intro vs9 H9 G9 d9 w9 r9 e9 hd9
                    obtain ⟨u0, _, rfl, q0, rfl⟩ := r9
                    exact kx _ rfl (some d9) H9 G9 w9.upE (Xat_mk (names := ["most"]) (xs := [.int a538]) (by decide) hd9 (.cons q0 .nil))
                  · intro hbb534 H540 w541
                    subst hbb534
                    have h := bifF h
                    refine x_next ?_
                    obtain ⟨b542, hx543, h⟩ := bindS h
                    refine x_if w541 (et_T (e_op rr_eqI (e_var (R := rI) (x := kind0) rfl rfl) e_int)) hx543 ?_ ?_
                    · intro hbb542 H544 w545
                      subst hbb542
                      have h := bifT h
                      obtain ⟨a546, hx547, h⟩ := bindS h
                      have h : (Sum.inl ⟨"NoSide", [("name", .str a546)]⟩ : Xn ⊕ Unit) = r := Option.some.inj h
                      subst h
                      refine x_raise (A := (aC rS aN)) (i := (a546, ())) w545 (ea_cons (e_op rr_ixL (e_var (R := (rL rS)) (x := names_here0) rfl hnames_here0) e_int) ea_nil) (by first | (simp only [hx547, Option.bind_eq_bind, Option.bind_some]; done) | (cases hx547; rfl) | (simp only [Option.bind_eq_bind] at hx547 ⊢; simp only [hx547, Option.bind_some])) (fun G9 vs9 r9 => by obtain ⟨u0, _, rfl, q0, rfl⟩ := r9; exact ⟨rfl, by simp⟩) ?_
                      intro vs9 H9 G9 d9 w9 r9 e9 hd9
                      obtain ⟨u0, _, rfl, q0, rfl⟩ := r9
                      exact kx _ rfl (some d9) H9 G9 w9.upE (Xat_mk (names := ["name"]) (xs := [.str a546]) (by decide) hd9 (.cons q0 .nil))
                    · intro hbb542 H548 w549
                      subst hbb542
                      have h := bifF h
                      refine x_next ?_
                      obtain ⟨b550, hx551, h⟩ := bindS h
                      refine x_if w549 (et_T (e_op rr_eqI (e_var (R := rI) (x := kind0) rfl rfl) e_int)) hx551 ?_ ?_
                      · intro hbb550 H552 w553
                        subst hbb550
                        have h := bifT h
                        obtain ⟨a554, hx557, h⟩ := bindS h
                        obtain ⟨a555, hx558, h⟩ := bindS h
                        obtain ⟨a556, hx559, h⟩ := bindS h
                        have h : (Sum.inl ⟨"Clash", [("first", .adr a554), ("second", .adr a555), ("kind", .str a556)]⟩ : Xn ⊕ Unit) = r := Option.some.inj h
                        subst h
                        refine x_raise (A := (aC rA (aC rA (aC rS aN)))) (i := (a554, (a555, (a556, ())))) w553 (ea_cons (e_op rr_ixL (e_var (R := (rL rA)) (x := records0) rfl hrecords0) e_int) (ea_cons (e_op rr_ixL (e_var (R := (rL rA)) (x := records0) rfl hrecords0) e_int) (ea_cons e_str ea_nil))) (by first | (simp only [hx557, hx558, hx559, Option.bind_eq_bind, Option.bind_some]; done) | (cases hx557; cases hx558; cases hx559; rfl) | (simp only [Option.bind_eq_bind] at hx557 hx558 hx559 ⊢; simp only [hx557, hx558, hx559, Option.bind_some])) (fun G9 vs9 r9 => by obtain ⟨u0, _, rfl, q0, u1, _, rfl, q1, u2, _, rfl, q2, rfl⟩ := r9; exact ⟨rfl, by simp⟩) ?_
                        intro vs9 H9 G9 d9 w9 r9 e9 hd9
                        obtain ⟨u0, _, rfl, q0, u1, _, rfl, q1, u2, _, rfl, q2, rfl⟩ := r9
                        exact kx _ rfl (some d9) H9 G9 w9.upE (Xat_mk (names := ["first", "second", "kind"]) (xs := [.adr a554, .adr a555, .str a556]) (by decide) hd9 (.cons q0 (.cons q1 (.cons q2 .nil))))
                      · intro hbb550 H560 w561
                        subst hbb550
                        have h := bifF h
                        refine x_next ?_
                        obtain ⟨b562, hx563, h⟩ := bindS h
                        refine x_if w561 (et_T (e_op rr_eqI (e_var (R := rI) (x := kind0) rfl rfl) e_int)) hx563 ?_ ?_
                        · intro hbb562 H564 w565
                          subst hbb562
                          have h := bifT h
                          have h : (Sum.inl ⟨"OtherOrder", []⟩ : Xn ⊕ Unit) = r := Option.some.inj h
                          subst h
                          exact kx _ rfl none _ _ w565.upE rfl
                        · intro hbb562 H566 w567
                          subst hbb562
                          have h := bifF h
                          refine x_next ?_
                          obtain ⟨b568, hx569, h⟩ := bindS h
                          refine x_if w567 (et_T (e_op rr_eqI (e_var (R := rI) (x := kind0) rfl rfl) e_int)) hx569 ?_ ?_
                          · intro hbb568 H570 w571
                            subst hbb568
                            have h := bifT h
                            obtain ⟨a575, hx576, h⟩ := bindS h
                            have h : (Sum.inl ⟨"NotSettled", [("wanted", .txs a575)]⟩ : Xn ⊕ Unit) = r := Option.some.inj h
                            subst h
                            refine x_raise (A := (aC (rT rS) aN)) (i := (a575, ())) w571 (ea_cons (e_cv (S := rT rS) (c := fun p => [p.1, p.2]) (e_pair (e_op rr_ixL (e_var (R := (rL rS)) (x := names_here0) rfl hnames_here0) e_int) (e_op rr_ixL (e_var (R := (rL rS)) (x := names_here0) rfl hnames_here0) e_int)) (fun h => rP_rT h)) ea_nil) (by first | (simp only [hx576, Option.bind_eq_bind, Option.bind_some]; done) | (cases hx576; rfl) | (simp only [Option.bind_eq_bind] at hx576 ⊢; simp only [hx576, Option.bind_some])) (fun G9 vs9 r9 => by obtain ⟨u0, _, rfl, q0, rfl⟩ := r9; exact ⟨rfl, by simp⟩) ?_
                            intro vs9 H9 G9 d9 w9 r9 e9 hd9
                            obtain ⟨u0, _, rfl, q0, rfl⟩ := r9
                            exact kx _ rfl (some d9) H9 G9 w9.upE (Xat_mk (names := ["wanted"]) (xs := [.txs a575]) (by decide) hd9 (.cons q0 .nil))
                          · intro hbb568 H577 w578
                            subst hbb568
                            have h := bifF h
                            refine x_next ?_
                            obtain ⟨b579, hx580, h⟩ := bindS h
                            refine x_if w578 (et_T (e_op rr_eqI (e_var (R := rI) (x := kind0) rfl rfl) e_int)) hx580 ?_ ?_
                            · intro hbb579 H581 w582
                              subst hbb579
                              have h := bifT h
                              obtain ⟨a583, hx584, h⟩ := bindS h
                              have h : (Sum.inl ⟨"NotDue", [("name", .str a583)]⟩ : Xn ⊕ Unit) = r := Option.some.inj h
                              subst h
                              refine x_raise (A := (aC rS aN)) (i := (a583, ())) w582 (ea_cons (e_op rr_ixL (e_var (R := (rL rS)) (x := names_here0) rfl hnames_here0) e_int) ea_nil) (by first | (simp only [hx584, Option.bind_eq_bind, Option.bind_some]; done) | (cases hx584; rfl) | (simp only [Option.bind_eq_bind] at hx584 ⊢; simp only [hx584, Option.bind_some])) (fun G9 vs9 r9 => by obtain ⟨u0, _, rfl, q0, rfl⟩ := r9; exact ⟨rfl, by simp⟩) ?_
                              intro vs9 H9 G9 d9 w9 r9 e9 hd9
                              obtain ⟨u0, _, rfl, q0, rfl⟩ := r9
                              exact kx _ rfl (some d9) H9 G9 w9.upE (Xat_mk (names := ["name"]) (xs := [.str a583]) (by decide) hd9 (.cons q0 .nil))
                            · intro hbb579 H585 w586
                              subst hbb579
                              have h := bifF h
                              refine x_next ?_
                              obtain ⟨b587, hx588, h⟩ := bindS h
                              refine x_if w586 (et_T (e_op rr_eqI (e_var (R := rI) (x := kind0) rfl rfl) e_int)) hx588 ?_ ?_
                              · intro hbb587 H589 w590
                                subst hbb587
                                have h := bifT h
                                obtain ⟨a591, hx592, h⟩ := bindS h
                                have h : (Sum.inl ⟨"OverLimit", [("most", .int a591)]⟩ : Xn ⊕ Unit) = r := Option.some.inj h
                                subst h
                                refine x_raise (A := (aC rI aN)) (i := (a591, ())) w590 (ea_cons (e_var (R := rI) (x := one0) rfl rfl) ea_nil) (by first | (simp only [hx592, Option.bind_eq_bind, Option.bind_some]; done) | (cases hx592; rfl) | (simp only [Option.bind_eq_bind] at hx592 ⊢; simp only [hx592, Option.bind_some])) (fun G9 vs9 r9 => by obtain ⟨u0, _, rfl, q0, rfl⟩ := r9; exact ⟨rfl, by simp⟩) ?_
                                intro vs9 H9 G9 d9 w9 r9 e9 hd9
                                obtain ⟨u0, _, rfl, q0, rfl⟩ := r9
                                exact kx _ rfl (some d9) H9 G9 w9.upE (Xat_mk (names := ["most"]) (xs := [.int a591]) (by decide) hd9 (.cons q0 .nil))
                              · intro hbb587 H593 w594
                                subst hbb587
                                have h := bifF h
                                refine x_next ?_
                                obtain ⟨a595, hx596, h⟩ := bindS h
                                have h : (Sum.inl ⟨"BadLimit", [("most", .int a595)]⟩ : Xn ⊕ Unit) = r := Option.some.inj h
                                subst h
                                refine x_raise (A := (aC rI aN)) (i := (a595, ())) w594 (ea_cons (e_var (R := rI) (x := one0) rfl rfl) ea_nil) (by first | (simp only [hx596, Option.bind_eq_bind, Option.bind_some]; done) | (cases hx596; rfl) | (simp only [Option.bind_eq_bind] at hx596 ⊢; simp only [hx596, Option.bind_some])) (fun G9 vs9 r9 => by obtain ⟨u0, _, rfl, q0, rfl⟩ := r9; exact ⟨rfl, by simp⟩) ?_
                                intro vs9 H9 G9 d9 w9 r9 e9 hd9
                                obtain ⟨u0, _, rfl, q0, rfl⟩ := r9
                                exact kx _ rfl (some d9) H9 G9 w9.upE (Xat_mk (names := ["most"]) (xs := [.int a595]) (by decide) hd9 (.cons q0 .nil))
def m__law_error_fields (kind0 : Int) (one0 : Int) (two0 : Int) (names_here0 : (List Str)) (records0 : (List Addr)) : Option (Option (List Xv)) :=
  (some (none : (Option (List Xv))) >>= fun told_597 => ((m__law_raised kind0 one0 two0 names_here0 records0 >>= fun r898 => Sum.elim (fun e900 => (bif (["BadSize"] : List Str).contains e900.cls then ((((xI e900 "size" >>= fun t913 => some (Xv.int t913)) >>= fun t914 => some ([t914])) >>= fun t915 => some (some t915)) >>= fun told_916 => some told_916) else (bif (["NotElement"] : List Str).contains e900.cls then ((((xI e900 "value" >>= fun t930 => some (Xv.int t930)) >>= fun t931 => some ([t931])) >>= fun t932 => some (some t932)) >>= fun told_933 => some told_933) else (bif (["Ring"] : List Str).contains e900.cls then ((((xI e900 "first" >>= fun t947 => some (Xv.int t947)) >>= fun t949 => ((xI e900 "second" >>= fun t948 => some (Xv.int t948)) >>= fun t950 => some ([t949, t950]))) >>= fun t951 => some (some t951)) >>= fun told_952 => some told_952) else (bif (["NoJoin"] : List Str).contains e900.cls then ((((xI e900 "first" >>= fun t966 => some (Xv.int t966)) >>= fun t968 => ((xI e900 "second" >>= fun t967 => some (Xv.int t967)) >>= fun t969 => some ([t968, t969]))) >>= fun t970 => some (some t970)) >>= fun told_971 => some told_971) else (bif (["NoMeet"] : List Str).contains e900.cls then ((((xI e900 "first" >>= fun t985 => some (Xv.int t985)) >>= fun t987 => ((xI e900 "second" >>= fun t986 => some (Xv.int t986)) >>= fun t988 => some ([t987, t988]))) >>= fun t989 => some (some t989)) >>= fun told_990 => some told_990) else (bif (["AskedTwice"] : List Str).contains e900.cls then ((((xS e900 "name" >>= fun t1004 => some (Xv.str t1004)) >>= fun t1005 => some ([t1005])) >>= fun t1006 => some (some t1006)) >>= fun told_1007 => some told_1007) else (bif (["Unanswered"] : List Str).contains e900.cls then ((((xS e900 "name" >>= fun t1021 => some (Xv.str t1021)) >>= fun t1022 => some ([t1022])) >>= fun t1023 => some (some t1023)) >>= fun told_1024 => some told_1024) else (bif (["TooMany"] : List Str).contains e900.cls then ((((xI e900 "most" >>= fun t1038 => some (Xv.int t1038)) >>= fun t1039 => some ([t1039])) >>= fun t1040 => some (some t1040)) >>= fun told_1041 => some told_1041) else (bif (["NoSide"] : List Str).contains e900.cls then ((((xS e900 "name" >>= fun t1055 => some (Xv.str t1055)) >>= fun t1056 => some ([t1056])) >>= fun t1057 => some (some t1057)) >>= fun told_1058 => some told_1058) else (bif (["Clash"] : List Str).contains e900.cls then ((((xA e900 "first" >>= fun t1072 => some (Xv.adr t1072)) >>= fun t1075 => ((xA e900 "second" >>= fun t1073 => some (Xv.adr t1073)) >>= fun t1076 => ((xS e900 "kind" >>= fun t1074 => some (Xv.str t1074)) >>= fun t1077 => some ([t1075, t1076, t1077])))) >>= fun t1078 => some (some t1078)) >>= fun told_1079 => some told_1079) else (bif (["OtherOrder"] : List Str).contains e900.cls then (some (some ([])) >>= fun told_1093 => some told_1093) else (bif (["NotSettled"] : List Str).contains e900.cls then ((((xLS e900 "wanted" >>= fun t1106 => some (Xv.txs t1106)) >>= fun t1107 => some ([t1107])) >>= fun t1108 => some (some t1108)) >>= fun told_1109 => some told_1109) else (bif (["NotDue"] : List Str).contains e900.cls then ((((xS e900 "name" >>= fun t1123 => some (Xv.str t1123)) >>= fun t1124 => some ([t1124])) >>= fun t1125 => some (some t1125)) >>= fun told_1126 => some told_1126) else (bif (["OverLimit"] : List Str).contains e900.cls then ((((xI e900 "most" >>= fun t1140 => some (Xv.int t1140)) >>= fun t1141 => some ([t1141])) >>= fun t1142 => some (some t1142)) >>= fun told_1143 => some told_1143) else (bif (["BadLimit"] : List Str).contains e900.cls then ((((xI e900 "most" >>= fun t1157 => some (Xv.int t1157)) >>= fun t1158 => some ([t1158])) >>= fun t1159 => some (some t1159)) >>= fun told_1160 => some told_1160) else none)))))))))))))))) (fun x1172 => some told_597) r898) >>= fun s891 => (some s891 >>= fun a1185 => some a1185)))
theorem sc__law_error_fields : FnScope ["_law_kind", "_law_one", "_law_two", "_law_names_here", "_law_records", "_law_told", "e"] ["_law_kind", "_law_one", "_law_two", "_law_names_here", "_law_records"] (defScope s__law_error_fields) := ⟨rfl, rfl, rfl, by decide +kernel, rfl, by decide +kernel, by decide +kernel⟩
theorem ok__law_error_fields (T : Tx K mg) : Fk P w K mg base CX0 4 "_law_error_fields" ["_law_kind", "_law_one", "_law_two", "_law_names_here", "_law_records"] (PF (aC rI (aC rI (aC rI (aC (rL rS) (aC (rL rA) aN))))) (rO (rL (rX K))) (fun i => m__law_error_fields i.1 i.2.1 i.2.2.1 i.2.2.2.1 i.2.2.2.2.1)) := by
  obtain ⟨fd__law_raised, G__law_raised, b__law_raised, k__law_raised, g__law_raised⟩ := ok__law_raised (w := w) (base := base) T
  obtain ⟨fd, F⟩ := T.def_ 5 rfl
  have nd := sc__law_error_fields.nd
  refine fk_mk T.toTx (x := "_law_error_fields") (T.glo 22 rfl) F (fun _ _ _ _ _ _ us hl => match us, hl with | [_, _, _, _, _], _ => rfl) (F.ok sc__law_error_fields (fun vs H Q E h => ?_) (fun cdv A outer s H vs Q E hr h => ?_))
  · obtain ⟨G, ⟨kind0, one0, two0, names_here0, records0, ⟨⟩⟩, r, e0, ⟨vkind0, _, rfl, hkind0, vone0, _, rfl, hone0, vtwo0, _, rfl, htwo0, vnames_here0, _, rfl, hnames_here0, vrecords0, _, rfl, hrecords0, rfl⟩, h, k⟩ := h
    rfl
  · obtain ⟨G, ⟨kind0, one0, two0, names_here0, records0, ⟨⟩⟩, r, e0, ⟨vkind0, _, rfl, hkind0, vone0, _, rfl, hone0, vtwo0, _, rfl, htwo0, vnames_here0, _, rfl, hnames_here0, vrecords0, _, rfl, hrecords0, rfl⟩, h, k⟩ := h
    cases hkind0
    cases hone0
    cases htwo0
    have w0 := Wo.start e0
    have h : m__law_error_fields kind0 one0 two0 names_here0 records0 = some r := h
    unfold m__law_error_fields at h
    refine ⟨_, PSs.nox (pss_cons (ps_set (i := 5) nd rfl (Or.inl rfl) pe_non) (Evl.pss_cut (ps_tryA nd rfl rfl takes_no (fun _ _ _ tk607 po607 => (pss_cons (ps_expr (pe_callS G__law_raised (hr.mono (by decide)) rfl g__law_raised k__law_raised b__law_raised (passAt tk607) (pa_cons (pv 0) (pa_cons (pv 1) (pa_cons (pv 2) (pa_cons (pv 3) (pa_cons (pv 4) pa_nil))))))) pss_nil)) (HdsA.as_ (i := 6) ⟨by rfl, by decide, Or.inl (T.glo 2 rfl)⟩ rfl rfl (fun a1607_0 oe607_0 cls607_0 d607_0 pn607_0 z607_0 f607_0 => (pss_cons (ps_set (i := 5) nd rfl (Or.inl rfl) (pe_lst (pa_cons (pe_xz z607_0 f607_0 (pv 6)) pa_nil))) pss_nil)) (HdsA.as_ (i := 6) ⟨by rfl, by decide, Or.inl (T.glo 3 rfl)⟩ rfl rfl (fun a1607_1 oe607_1 cls607_1 d607_1 pn607_1 z607_1 f607_1 => (pss_cons (ps_set (i := 5) nd rfl (Or.inl rfl) (pe_lst (pa_cons (pe_xz z607_1 f607_1 (pv 6)) pa_nil))) pss_nil)) (HdsA.as_ (i := 6) ⟨by rfl, by decide, Or.inl (T.glo 4 rfl)⟩ rfl rfl (fun a1607_2 oe607_2 cls607_2 d607_2 pn607_2 z607_2 f607_2 => (pss_cons (ps_set (i := 5) nd rfl (Or.inl rfl) (pe_lst (pa_cons (pe_xz z607_2 f607_2 (pv 6)) (pa_cons (pe_xz z607_2 f607_2 (pv 6)) pa_nil)))) pss_nil)) (HdsA.as_ (i := 6) ⟨by rfl, by decide, Or.inl (T.glo 5 rfl)⟩ rfl rfl (fun a1607_3 oe607_3 cls607_3 d607_3 pn607_3 z607_3 f607_3 => (pss_cons (ps_set (i := 5) nd rfl (Or.inl rfl) (pe_lst (pa_cons (pe_xz z607_3 f607_3 (pv 6)) (pa_cons (pe_xz z607_3 f607_3 (pv 6)) pa_nil)))) pss_nil)) (HdsA.as_ (i := 6) ⟨by rfl, by decide, Or.inl (T.glo 6 rfl)⟩ rfl rfl (fun a1607_4 oe607_4 cls607_4 d607_4 pn607_4 z607_4 f607_4 => (pss_cons (ps_set (i := 5) nd rfl (Or.inl rfl) (pe_lst (pa_cons (pe_xz z607_4 f607_4 (pv 6)) (pa_cons (pe_xz z607_4 f607_4 (pv 6)) pa_nil)))) pss_nil)) (HdsA.as_ (i := 6) ⟨by rfl, by decide, Or.inl (T.glo 7 rfl)⟩ rfl rfl (fun a1607_5 oe607_5 cls607_5 d607_5 pn607_5 z607_5 f607_5 => (pss_cons (ps_set (i := 5) nd rfl (Or.inl rfl) (pe_lst (pa_cons (pe_xz z607_5 f607_5 (pv 6)) pa_nil))) pss_nil)) (HdsA.as_ (i := 6) ⟨by rfl, by decide, Or.inl (T.glo 8 rfl)⟩ rfl rfl (fun a1607_6 oe607_6 cls607_6 d607_6 pn607_6 z607_6 f607_6 => (pss_cons (ps_set (i := 5) nd rfl (Or.inl rfl) (pe_lst (pa_cons (pe_xz z607_6 f607_6 (pv 6)) pa_nil))) pss_nil)) (HdsA.as_ (i := 6) ⟨by rfl, by decide, Or.inl (T.glo 9 rfl)⟩ rfl rfl (fun a1607_7 oe607_7 cls607_7 d607_7 pn607_7 z607_7 f607_7 => (pss_cons (ps_set (i := 5) nd rfl (Or.inl rfl) (pe_lst (pa_cons (pe_xz z607_7 f607_7 (pv 6)) pa_nil))) pss_nil)) (HdsA.as_ (i := 6) ⟨by rfl, by decide, Or.inl (T.glo 10 rfl)⟩ rfl rfl (fun a1607_8 oe607_8 cls607_8 d607_8 pn607_8 z607_8 f607_8 => (pss_cons (ps_set (i := 5) nd rfl (Or.inl rfl) (pe_lst (pa_cons (pe_xz z607_8 f607_8 (pv 6)) pa_nil))) pss_nil)) (HdsA.as_ (i := 6) ⟨by rfl, by decide, Or.inl (T.glo 11 rfl)⟩ rfl rfl (fun a1607_9 oe607_9 cls607_9 d607_9 pn607_9 z607_9 f607_9 => (pss_cons (ps_set (i := 5) nd rfl (Or.inl rfl) (pe_lst (pa_cons (pe_xz z607_9 f607_9 (pv 6)) (pa_cons (pe_xz z607_9 f607_9 (pv 6)) (pa_cons (pe_xz z607_9 f607_9 (pv 6)) pa_nil))))) pss_nil)) (HdsA.plain ⟨by rfl, by decide, Or.inl (T.glo 12 rfl)⟩ (fun a1607_10 oe607_10 cls607_10 d607_10 pn607_10 z607_10 f607_10 => (pss_cons (ps_set (i := 5) nd rfl (Or.inl rfl) (pe_lst pa_nil)) pss_nil)) (HdsA.as_ (i := 6) ⟨by rfl, by decide, Or.inl (T.glo 13 rfl)⟩ rfl rfl (fun a1607_11 oe607_11 cls607_11 d607_11 pn607_11 z607_11 f607_11 => (pss_cons (ps_set (i := 5) nd rfl (Or.inl rfl) (pe_lst (pa_cons (pe_xz z607_11 f607_11 (pv 6)) pa_nil))) pss_nil)) (HdsA.as_ (i := 6) ⟨by rfl, by decide, Or.inl (T.glo 14 rfl)⟩ rfl rfl (fun a1607_12 oe607_12 cls607_12 d607_12 pn607_12 z607_12 f607_12 => (pss_cons (ps_set (i := 5) nd rfl (Or.inl rfl) (pe_lst (pa_cons (pe_xz z607_12 f607_12 (pv 6)) pa_nil))) pss_nil)) (HdsA.as_ (i := 6) ⟨by rfl, by decide, Or.inl (T.glo 15 rfl)⟩ rfl rfl (fun a1607_13 oe607_13 cls607_13 d607_13 pn607_13 z607_13 f607_13 => (pss_cons (ps_set (i := 5) nd rfl (Or.inl rfl) (pe_lst (pa_cons (pe_xz z607_13 f607_13 (pv 6)) pa_nil))) pss_nil)) (HdsA.as_ (i := 6) ⟨by rfl, by decide, Or.inl (T.glo 16 rfl)⟩ rfl rfl (fun a1607_14 oe607_14 cls607_14 d607_14 pn607_14 z607_14 f607_14 => (pss_cons (ps_set (i := 5) nd rfl (Or.inl rfl) (pe_lst (pa_cons (pe_xz z607_14 f607_14 (pv 6)) pa_nil))) pss_nil)) HdsA.nil)))))))))))))))) (pss_cons (ps_ret (pv 5)) pss_nil))), ?_⟩
    obtain ⟨told_597, hx598, h⟩ := bindS h
    refine x_set w0 (e_none (R := (rL (rX K)))) hx598 ?_
    intro v601 H599 G602 w600 e603 h604
    have h605 := Rep.mono _ e603 hnames_here0
    have h606 := Rep.mono _ e603 hrecords0
    obtain ⟨s891, hx892, h⟩ := bindS h
    refine o_cut (fun σ' H' => ∃ v893 : V, ∃ u895 : Option V, ∃ G' : Hp, Wo G H [] G' H' [] ∧ Evl.Ex G602 G' ∧ σ' = [some (V.int kind0), some (V.int one0), some (V.int two0), some vnames_here0, some vrecords0, some v893, u895] ∧ (rO (rL (rX K))).r G' v893 s891) ?_ ?_
    · refine o_try ?_
      obtain ⟨r898, hx899, hx892⟩ := bindS hx892
      refine x_callX w600 (ex_call (ea_cons (e_var (R := rI) (x := kind0) rfl rfl) (ea_cons (e_var (R := rI) (x := one0) rfl rfl) (ea_cons (e_var (R := rI) (x := two0) rfl rfl) (ea_cons (e_var (R := (rL rS)) (x := names_here0) rfl h605) (ea_cons (e_var (R := (rL rA)) (x := records0) rfl h606) ea_nil)))))) (by first | (simp only [be1, bs1, ba1] at hx899 ⊢; exact hx899) | exact hx899) ?_ ?_
      · intro e900 he901 d902 H903 G904 w905 e906 xa907
        subst he901
        have hx892 := sumL hx892
        have h908 := Rep.mono _ e906 h605
        have h909 := Rep.mono _ e906 h606
        have h910 := Rep.mono _ e906 h604
        rcases bifO hx892 with ⟨hc911, hx892⟩ | ⟨_, hx892⟩
        · refine ⟨true, xa_ok (T.mo 7 rfl) hc911, fun _ ax912 naax912 => ?_, fun z => nomatch z⟩
          obtain ⟨told_916, hx917, hx892⟩ := bindS hx892
          refine x_set w905 (e_some (EL.e (el_disp (eal_cons (e_cv (S := rX K) (c := Xv.int) (e_xz (a := ax912) rfl xa907 (xs_ok (T.mo 5 rfl) hc911).2 (xn_ok (T.mo 6 rfl) hc911 (by decide))) (fun h => h)) eal_nil)))) (by first | (simp only [be1, bs1, ba1] at hx917 ⊢; exact hx917) | exact hx917) ?_
          intro v920 H918 G921 w919 e922 h923
          have h924 := Rep.mono _ e922 h908
          have h925 := Rep.mono _ e922 h909
          have h926 := Rep.mono _ e922 h910
          have xa927 := Xat.mono e922 xa907
          refine x_next ?_
          have hx892 : told_916 = s891 := Option.some.inj hx892
          subst hx892
          exact ⟨v920, (none), G921, w919, (e906.trans e922), rfl, h923⟩
        · rcases bifO hx892 with ⟨hc928, hx892⟩ | ⟨_, hx892⟩
          · refine ⟨false, xa_ok (T.mo 8 rfl) hc928, fun z => Bool.noConfusion z, fun _ => ?_⟩
            refine ⟨true, xa_ok (T.mo 11 rfl) hc928, fun _ ax929 naax929 => ?_, fun z => nomatch z⟩
            obtain ⟨told_933, hx934, hx892⟩ := bindS hx892
            refine x_set w905 (e_some (EL.e (el_disp (eal_cons (e_cv (S := rX K) (c := Xv.int) (e_xz (a := ax929) rfl xa907 (xs_ok (T.mo 9 rfl) hc928).2 (xn_ok (T.mo 10 rfl) hc928 (by decide))) (fun h => h)) eal_nil)))) (by first | (simp only [be1, bs1, ba1] at hx934 ⊢; exact hx934) | exact hx934) ?_
            intro v937 H935 G938 w936 e939 h940
            have h941 := Rep.mono _ e939 h908
            have h942 := Rep.mono _ e939 h909
            have h943 := Rep.mono _ e939 h910
            have xa944 := Xat.mono e939 xa907
            refine x_next ?_
            have hx892 : told_933 = s891 := Option.some.inj hx892
            subst hx892
            exact ⟨v937, (none), G938, w936, (e906.trans e939), rfl, h940⟩
          · rcases bifO hx892 with ⟨hc945, hx892⟩ | ⟨_, hx892⟩
            · refine ⟨false, xa_ok (T.mo 12 rfl) hc945, fun z => Bool.noConfusion z, fun _ => ?_⟩
              refine ⟨false, xa_ok (T.mo 13 rfl) hc945, fun z => Bool.noConfusion z, fun _ => ?_⟩
              refine ⟨true, xa_ok (T.mo 17 rfl) hc945, fun _ ax946 naax946 => ?_, fun z => nomatch z⟩
              obtain ⟨told_952, hx953, hx892⟩ := bindS hx892
              refine x_set w905 (e_some (EL.e (el_disp (eal_cons (e_cv (S := rX K) (c := Xv.int) (e_xz (a := ax946) rfl xa907 (xs_ok (T.mo 14 rfl) hc945).2 (xn_ok (T.mo 15 rfl) hc945 (by decide))) (fun h => h)) (eal_cons (e_cv (S := rX K) (c := Xv.int) (e_xz (a := ax946) rfl xa907 (xs_ok (T.mo 14 rfl) hc945).2 (xn_ok (T.mo 16 rfl) hc945 (by decide))) (fun h => h)) eal_nil))))) (by first | (simp only [be1, bs1, ba1] at hx953 ⊢; exact hx953) | exact hx953) ?_
              intro v956 H954 G957 w955 e958 h959
              have h960 := Rep.mono _ e958 h908
              have h961 := Rep.mono _ e958 h909
              have h962 := Rep.mono _ e958 h910
              have xa963 := Xat.mono e958 xa907
              refine x_next ?_
              have hx892 : told_952 = s891 := Option.some.inj hx892
              subst hx892
              exact ⟨v956, (none), G957, w955, (e906.trans e958), rfl, h959⟩
            · rcases bifO hx892 with ⟨hc964, hx892⟩ | ⟨_, hx892⟩
              · refine ⟨false, xa_ok (T.mo 18 rfl) hc964, fun z => Bool.noConfusion z, fun _ => ?_⟩
                refine ⟨false, xa_ok (T.mo 19 rfl) hc964, fun z => Bool.noConfusion z, fun _ => ?_⟩
                refine ⟨false, xa_ok (T.mo 20 rfl) hc964, fun z => Bool.noConfusion z, fun _ => ?_⟩
                refine ⟨true, xa_ok (T.mo 24 rfl) hc964, fun _ ax965 naax965 => ?_, fun z => nomatch z⟩
                obtain ⟨told_971, hx972, hx892⟩ := bindS hx892
                refine x_set w905 (e_some (EL.e (el_disp (eal_cons (e_cv (S := rX K) (c := Xv.int) (e_xz (a := ax965) rfl xa907 (xs_ok (T.mo 21 rfl) hc964).2 (xn_ok (T.mo 22 rfl) hc964 (by decide))) (fun h => h)) (eal_cons (e_cv (S := rX K) (c := Xv.int) (e_xz (a := ax965) rfl xa907 (xs_ok (T.mo 21 rfl) hc964).2 (xn_ok (T.mo 23 rfl) hc964 (by decide))) (fun h => h)) eal_nil))))) (by first | (simp only [be1, bs1, ba1] at hx972 ⊢; exact hx972) | exact hx972) ?_
                intro v975 H973 G976 w974 e977 h978
                have h979 := Rep.mono _ e977 h908
                have h980 := Rep.mono _ e977 h909
                have h981 := Rep.mono _ e977 h910
                have xa982 := Xat.mono e977 xa907
                refine x_next ?_
                have hx892 : told_971 = s891 := Option.some.inj hx892
                subst hx892
                exact ⟨v975, (none), G976, w974, (e906.trans e977), rfl, h978⟩
              · rcases bifO hx892 with ⟨hc983, hx892⟩ | ⟨_, hx892⟩
                · refine ⟨false, xa_ok (T.mo 25 rfl) hc983, fun z => Bool.noConfusion z, fun _ => ?_⟩
                  refine ⟨false, xa_ok (T.mo 26 rfl) hc983, fun z => Bool.noConfusion z, fun _ => ?_⟩
                  refine ⟨false, xa_ok (T.mo 27 rfl) hc983, fun z => Bool.noConfusion z, fun _ => ?_⟩
                  refine ⟨false, xa_ok (T.mo 28 rfl) hc983, fun z => Bool.noConfusion z, fun _ => ?_⟩
                  refine ⟨true, xa_ok (T.mo 32 rfl) hc983, fun _ ax984 naax984 => ?_, fun z => nomatch z⟩
                  obtain ⟨told_990, hx991, hx892⟩ := bindS hx892
                  refine x_set w905 (e_some (EL.e (el_disp (eal_cons (e_cv (S := rX K) (c := Xv.int) (e_xz (a := ax984) rfl xa907 (xs_ok (T.mo 29 rfl) hc983).2 (xn_ok (T.mo 30 rfl) hc983 (by decide))) (fun h => h)) (eal_cons (e_cv (S := rX K) (c := Xv.int) (e_xz (a := ax984) rfl xa907 (xs_ok (T.mo 29 rfl) hc983).2 (xn_ok (T.mo 31 rfl) hc983 (by decide))) (fun h => h)) eal_nil))))) (by first | (simp only [be1, bs1, ba1] at hx991 ⊢; exact hx991) | exact hx991) ?_
                  intro v994 H992 G995 w993 e996 h997
                  have h998 := Rep.mono _ e996 h908
                  have h999 := Rep.mono _ e996 h909
                  have h1000 := Rep.mono _ e996 h910
                  have xa1001 := Xat.mono e996 xa907
                  refine x_next ?_
                  have hx892 : told_990 = s891 := Option.some.inj hx892
                  subst hx892
                  exact ⟨v994, (none), G995, w993, (e906.trans e996), rfl, h997⟩
                · rcases bifO hx892 with ⟨hc1002, hx892⟩ | ⟨_, hx892⟩
                  · refine ⟨false, xa_ok (T.mo 33 rfl) hc1002, fun z => Bool.noConfusion z, fun _ => ?_⟩
                    refine ⟨false, xa_ok (T.mo 34 rfl) hc1002, fun z => Bool.noConfusion z, fun _ => ?_⟩
                    refine ⟨false, xa_ok (T.mo 35 rfl) hc1002, fun z => Bool.noConfusion z, fun _ => ?_⟩
                    refine ⟨false, xa_ok (T.mo 36 rfl) hc1002, fun z => Bool.noConfusion z, fun _ => ?_⟩
                    refine ⟨false, xa_ok (T.mo 37 rfl) hc1002, fun z => Bool.noConfusion z, fun _ => ?_⟩
                    refine ⟨true, xa_ok (T.mo 40 rfl) hc1002, fun _ ax1003 naax1003 => ?_, fun z => nomatch z⟩
                    obtain ⟨told_1007, hx1008, hx892⟩ := bindS hx892
                    refine x_set w905 (e_some (EL.e (el_disp (eal_cons (e_cv (S := rX K) (c := Xv.str) (e_xzS (a := ax1003) rfl xa907 (xs_ok (T.mo 38 rfl) hc1002).2 (xn_ok (T.mo 39 rfl) hc1002 (by decide))) (fun h => h)) eal_nil)))) (by first | (simp only [be1, bs1, ba1] at hx1008 ⊢; exact hx1008) | exact hx1008) ?_
                    intro v1011 H1009 G1012 w1010 e1013 h1014
                    have h1015 := Rep.mono _ e1013 h908
                    have h1016 := Rep.mono _ e1013 h909
                    have h1017 := Rep.mono _ e1013 h910
                    have xa1018 := Xat.mono e1013 xa907
                    refine x_next ?_
                    have hx892 : told_1007 = s891 := Option.some.inj hx892
                    subst hx892
                    exact ⟨v1011, (none), G1012, w1010, (e906.trans e1013), rfl, h1014⟩
                  · rcases bifO hx892 with ⟨hc1019, hx892⟩ | ⟨_, hx892⟩
                    · refine ⟨false, xa_ok (T.mo 41 rfl) hc1019, fun z => Bool.noConfusion z, fun _ => ?_⟩
                      refine ⟨false, xa_ok (T.mo 42 rfl) hc1019, fun z => Bool.noConfusion z, fun _ => ?_⟩
                      refine ⟨false, xa_ok (T.mo 43 rfl) hc1019, fun z => Bool.noConfusion z, fun _ => ?_⟩
                      refine ⟨false, xa_ok (T.mo 44 rfl) hc1019, fun z => Bool.noConfusion z, fun _ => ?_⟩
                      refine ⟨false, xa_ok (T.mo 45 rfl) hc1019, fun z => Bool.noConfusion z, fun _ => ?_⟩
                      refine ⟨false, xa_ok (T.mo 46 rfl) hc1019, fun z => Bool.noConfusion z, fun _ => ?_⟩
                      refine ⟨true, xa_ok (T.mo 49 rfl) hc1019, fun _ ax1020 naax1020 => ?_, fun z => nomatch z⟩
                      obtain ⟨told_1024, hx1025, hx892⟩ := bindS hx892
                      refine x_set w905 (e_some (EL.e (el_disp (eal_cons (e_cv (S := rX K) (c := Xv.str) (e_xzS (a := ax1020) rfl xa907 (xs_ok (T.mo 47 rfl) hc1019).2 (xn_ok (T.mo 48 rfl) hc1019 (by decide))) (fun h => h)) eal_nil)))) (by first | (simp only [be1, bs1, ba1] at hx1025 ⊢; exact hx1025) | exact hx1025) ?_
                      intro v1028 H1026 G1029 w1027 e1030 h1031
                      have h1032 := Rep.mono _ e1030 h908
                      have h1033 := Rep.mono _ e1030 h909
                      have h1034 := Rep.mono _ e1030 h910
                      have xa1035 := Xat.mono e1030 xa907
                      refine x_next ?_
                      have hx892 : told_1024 = s891 := Option.some.inj hx892
                      subst hx892
                      exact ⟨v1028, (none), G1029, w1027, (e906.trans e1030), rfl, h1031⟩
                    · rcases bifO hx892 with ⟨hc1036, hx892⟩ | ⟨_, hx892⟩
                      · refine ⟨false, xa_ok (T.mo 50 rfl) hc1036, fun z => Bool.noConfusion z, fun _ => ?_⟩
                        refine ⟨false, xa_ok (T.mo 51 rfl) hc1036, fun z => Bool.noConfusion z, fun _ => ?_⟩
                        refine ⟨false, xa_ok (T.mo 52 rfl) hc1036, fun z => Bool.noConfusion z, fun _ => ?_⟩
                        refine ⟨false, xa_ok (T.mo 53 rfl) hc1036, fun z => Bool.noConfusion z, fun _ => ?_⟩
                        refine ⟨false, xa_ok (T.mo 54 rfl) hc1036, fun z => Bool.noConfusion z, fun _ => ?_⟩
                        refine ⟨false, xa_ok (T.mo 55 rfl) hc1036, fun z => Bool.noConfusion z, fun _ => ?_⟩
                        refine ⟨false, xa_ok (T.mo 56 rfl) hc1036, fun z => Bool.noConfusion z, fun _ => ?_⟩
                        refine ⟨true, xa_ok (T.mo 59 rfl) hc1036, fun _ ax1037 naax1037 => ?_, fun z => nomatch z⟩
                        obtain ⟨told_1041, hx1042, hx892⟩ := bindS hx892
                        refine x_set w905 (e_some (EL.e (el_disp (eal_cons (e_cv (S := rX K) (c := Xv.int) (e_xz (a := ax1037) rfl xa907 (xs_ok (T.mo 57 rfl) hc1036).2 (xn_ok (T.mo 58 rfl) hc1036 (by decide))) (fun h => h)) eal_nil)))) (by first | (simp only [be1, bs1, ba1] at hx1042 ⊢; exact hx1042) | exact hx1042) ?_
                        intro v1045 H1043 G1046 w1044 e1047 h1048
                        have h1049 := Rep.mono _ e1047 h908
                        have h1050 := Rep.mono _ e1047 h909
                        have h1051 := Rep.mono _ e1047 h910
                        have xa1052 := Xat.mono e1047 xa907
                        refine x_next ?_
                        have hx892 : told_1041 = s891 := Option.some.inj hx892
                        subst hx892
                        exact ⟨v1045, (none), G1046, w1044, (e906.trans e1047), rfl, h1048⟩
                      · rcases bifO hx892 with ⟨hc1053, hx892⟩ | ⟨_, hx892⟩
                        · refine ⟨false, xa_ok (T.mo 60 rfl) hc1053, fun z => Bool.noConfusion z, fun _ => ?_⟩
                          refine ⟨false, xa_ok (T.mo 61 rfl) hc1053, fun z => Bool.noConfusion z, fun _ => ?_⟩
                          refine ⟨false, xa_ok (T.mo 62 rfl) hc1053, fun z => Bool.noConfusion z, fun _ => ?_⟩
                          refine ⟨false, xa_ok (T.mo 63 rfl) hc1053, fun z => Bool.noConfusion z, fun _ => ?_⟩
                          refine ⟨false, xa_ok (T.mo 64 rfl) hc1053, fun z => Bool.noConfusion z, fun _ => ?_⟩
                          refine ⟨false, xa_ok (T.mo 65 rfl) hc1053, fun z => Bool.noConfusion z, fun _ => ?_⟩
                          refine ⟨false, xa_ok (T.mo 66 rfl) hc1053, fun z => Bool.noConfusion z, fun _ => ?_⟩
                          refine ⟨false, xa_ok (T.mo 67 rfl) hc1053, fun z => Bool.noConfusion z, fun _ => ?_⟩
                          refine ⟨true, xa_ok (T.mo 70 rfl) hc1053, fun _ ax1054 naax1054 => ?_, fun z => nomatch z⟩
                          obtain ⟨told_1058, hx1059, hx892⟩ := bindS hx892
                          refine x_set w905 (e_some (EL.e (el_disp (eal_cons (e_cv (S := rX K) (c := Xv.str) (e_xzS (a := ax1054) rfl xa907 (xs_ok (T.mo 68 rfl) hc1053).2 (xn_ok (T.mo 69 rfl) hc1053 (by decide))) (fun h => h)) eal_nil)))) (by first | (simp only [be1, bs1, ba1] at hx1059 ⊢; exact hx1059) | exact hx1059) ?_
                          intro v1062 H1060 G1063 w1061 e1064 h1065
                          have h1066 := Rep.mono _ e1064 h908
                          have h1067 := Rep.mono _ e1064 h909
                          have h1068 := Rep.mono _ e1064 h910
                          have xa1069 := Xat.mono e1064 xa907
                          refine x_next ?_
                          have hx892 : told_1058 = s891 := Option.some.inj hx892
                          subst hx892
                          exact ⟨v1062, (none), G1063, w1061, (e906.trans e1064), rfl, h1065⟩
                        · rcases bifO hx892 with ⟨hc1070, hx892⟩ | ⟨_, hx892⟩
                          · refine ⟨false, xa_ok (T.mo 71 rfl) hc1070, fun z => Bool.noConfusion z, fun _ => ?_⟩
                            refine ⟨false, xa_ok (T.mo 72 rfl) hc1070, fun z => Bool.noConfusion z, fun _ => ?_⟩
                            refine ⟨false, xa_ok (T.mo 73 rfl) hc1070, fun z => Bool.noConfusion z, fun _ => ?_⟩
                            refine ⟨false, xa_ok (T.mo 74 rfl) hc1070, fun z => Bool.noConfusion z, fun _ => ?_⟩
                            refine ⟨false, xa_ok (T.mo 75 rfl) hc1070, fun z => Bool.noConfusion z, fun _ => ?_⟩
                            refine ⟨false, xa_ok (T.mo 76 rfl) hc1070, fun z => Bool.noConfusion z, fun _ => ?_⟩
                            refine ⟨false, xa_ok (T.mo 77 rfl) hc1070, fun z => Bool.noConfusion z, fun _ => ?_⟩
                            refine ⟨false, xa_ok (T.mo 78 rfl) hc1070, fun z => Bool.noConfusion z, fun _ => ?_⟩
                            refine ⟨false, xa_ok (T.mo 79 rfl) hc1070, fun z => Bool.noConfusion z, fun _ => ?_⟩
                            refine ⟨true, xa_ok (T.mo 84 rfl) hc1070, fun _ ax1071 naax1071 => ?_, fun z => nomatch z⟩
                            obtain ⟨told_1079, hx1080, hx892⟩ := bindS hx892
                            refine x_set w905 (e_some (EL.e (el_disp (eal_cons (e_cv (S := rX K) (c := Xv.adr) (e_xzA (a := ax1071) rfl xa907 (xs_ok (T.mo 80 rfl) hc1070).2 (xn_ok (T.mo 81 rfl) hc1070 (by decide))) (fun h => h)) (eal_cons (e_cv (S := rX K) (c := Xv.adr) (e_xzA (a := ax1071) rfl xa907 (xs_ok (T.mo 80 rfl) hc1070).2 (xn_ok (T.mo 82 rfl) hc1070 (by decide))) (fun h => h)) (eal_cons (e_cv (S := rX K) (c := Xv.str) (e_xzS (a := ax1071) rfl xa907 (xs_ok (T.mo 80 rfl) hc1070).2 (xn_ok (T.mo 83 rfl) hc1070 (by decide))) (fun h => h)) eal_nil)))))) (by first | (simp only [be1, bs1, ba1] at hx1080 ⊢; exact hx1080) | exact hx1080) ?_
                            intro v1083 H1081 G1084 w1082 e1085 h1086
                            have h1087 := Rep.mono _ e1085 h908
                            have h1088 := Rep.mono _ e1085 h909
                            have h1089 := Rep.mono _ e1085 h910
                            have xa1090 := Xat.mono e1085 xa907
                            refine x_next ?_
                            have hx892 : told_1079 = s891 := Option.some.inj hx892
                            subst hx892
                            exact ⟨v1083, (none), G1084, w1082, (e906.trans e1085), rfl, h1086⟩
                          · rcases bifO hx892 with ⟨hc1091, hx892⟩ | ⟨_, hx892⟩
                            · refine ⟨false, xa_ok (T.mo 85 rfl) hc1091, fun z => Bool.noConfusion z, fun _ => ?_⟩
                              refine ⟨false, xa_ok (T.mo 86 rfl) hc1091, fun z => Bool.noConfusion z, fun _ => ?_⟩
                              refine ⟨false, xa_ok (T.mo 87 rfl) hc1091, fun z => Bool.noConfusion z, fun _ => ?_⟩
                              refine ⟨false, xa_ok (T.mo 88 rfl) hc1091, fun z => Bool.noConfusion z, fun _ => ?_⟩
                              refine ⟨false, xa_ok (T.mo 89 rfl) hc1091, fun z => Bool.noConfusion z, fun _ => ?_⟩
                              refine ⟨false, xa_ok (T.mo 90 rfl) hc1091, fun z => Bool.noConfusion z, fun _ => ?_⟩
                              refine ⟨false, xa_ok (T.mo 91 rfl) hc1091, fun z => Bool.noConfusion z, fun _ => ?_⟩
                              refine ⟨false, xa_ok (T.mo 92 rfl) hc1091, fun z => Bool.noConfusion z, fun _ => ?_⟩
                              refine ⟨false, xa_ok (T.mo 93 rfl) hc1091, fun z => Bool.noConfusion z, fun _ => ?_⟩
                              refine ⟨false, xa_ok (T.mo 94 rfl) hc1091, fun z => Bool.noConfusion z, fun _ => ?_⟩
                              refine ⟨true, xa_ok (T.mo 95 rfl) hc1091, fun _ ax1092 naax1092 => ?_, fun z => nomatch z⟩
                              obtain ⟨told_1093, hx1094, hx892⟩ := bindS hx892
                              refine x_set w905 (e_some (EL.e (el_disp (R := (rX K)) eal_nil))) hx1094 ?_
                              intro v1097 H1095 G1098 w1096 e1099 h1100
                              have h1101 := Rep.mono _ e1099 h908
                              have h1102 := Rep.mono _ e1099 h909
                              have h1103 := Rep.mono _ e1099 h910
                              refine x_next ?_
                              have hx892 : told_1093 = s891 := Option.some.inj hx892
                              subst hx892
                              exact ⟨v1097, (none), G1098, w1096, (e906.trans e1099), rfl, h1100⟩
                            · rcases bifO hx892 with ⟨hc1104, hx892⟩ | ⟨_, hx892⟩
                              · refine ⟨false, xa_ok (T.mo 96 rfl) hc1104, fun z => Bool.noConfusion z, fun _ => ?_⟩
                                refine ⟨false, xa_ok (T.mo 97 rfl) hc1104, fun z => Bool.noConfusion z, fun _ => ?_⟩
                                refine ⟨false, xa_ok (T.mo 98 rfl) hc1104, fun z => Bool.noConfusion z, fun _ => ?_⟩
                                refine ⟨false, xa_ok (T.mo 99 rfl) hc1104, fun z => Bool.noConfusion z, fun _ => ?_⟩
                                refine ⟨false, xa_ok (T.mo 100 rfl) hc1104, fun z => Bool.noConfusion z, fun _ => ?_⟩
                                refine ⟨false, xa_ok (T.mo 101 rfl) hc1104, fun z => Bool.noConfusion z, fun _ => ?_⟩
                                refine ⟨false, xa_ok (T.mo 102 rfl) hc1104, fun z => Bool.noConfusion z, fun _ => ?_⟩
                                refine ⟨false, xa_ok (T.mo 103 rfl) hc1104, fun z => Bool.noConfusion z, fun _ => ?_⟩
                                refine ⟨false, xa_ok (T.mo 104 rfl) hc1104, fun z => Bool.noConfusion z, fun _ => ?_⟩
                                refine ⟨false, xa_ok (T.mo 105 rfl) hc1104, fun z => Bool.noConfusion z, fun _ => ?_⟩
                                refine ⟨false, xa_ok (T.mo 106 rfl) hc1104, fun z => Bool.noConfusion z, fun _ => ?_⟩
                                refine ⟨true, xa_ok (T.mo 109 rfl) hc1104, fun _ ax1105 naax1105 => ?_, fun z => nomatch z⟩
                                obtain ⟨told_1109, hx1110, hx892⟩ := bindS hx892
                                refine x_set w905 (e_some (EL.e (el_disp (eal_cons (e_cv (S := rX K) (c := Xv.txs) (e_xzLS (a := ax1105) rfl xa907 (xs_ok (T.mo 107 rfl) hc1104).2 (xn_ok (T.mo 108 rfl) hc1104 (by decide))) (fun h => h)) eal_nil)))) (by first | (simp only [be1, bs1, ba1] at hx1110 ⊢; exact hx1110) | exact hx1110) ?_
                                intro v1113 H1111 G1114 w1112 e1115 h1116
                                have h1117 := Rep.mono _ e1115 h908
                                have h1118 := Rep.mono _ e1115 h909
                                have h1119 := Rep.mono _ e1115 h910
                                have xa1120 := Xat.mono e1115 xa907
                                refine x_next ?_
                                have hx892 : told_1109 = s891 := Option.some.inj hx892
                                subst hx892
                                exact ⟨v1113, (none), G1114, w1112, (e906.trans e1115), rfl, h1116⟩
                              · rcases bifO hx892 with ⟨hc1121, hx892⟩ | ⟨_, hx892⟩
                                · refine ⟨false, xa_ok (T.mo 110 rfl) hc1121, fun z => Bool.noConfusion z, fun _ => ?_⟩
                                  refine ⟨false, xa_ok (T.mo 111 rfl) hc1121, fun z => Bool.noConfusion z, fun _ => ?_⟩
                                  refine ⟨false, xa_ok (T.mo 112 rfl) hc1121, fun z => Bool.noConfusion z, fun _ => ?_⟩
                                  refine ⟨false, xa_ok (T.mo 113 rfl) hc1121, fun z => Bool.noConfusion z, fun _ => ?_⟩
                                  refine ⟨false, xa_ok (T.mo 114 rfl) hc1121, fun z => Bool.noConfusion z, fun _ => ?_⟩
                                  refine ⟨false, xa_ok (T.mo 115 rfl) hc1121, fun z => Bool.noConfusion z, fun _ => ?_⟩
                                  refine ⟨false, xa_ok (T.mo 116 rfl) hc1121, fun z => Bool.noConfusion z, fun _ => ?_⟩
                                  refine ⟨false, xa_ok (T.mo 117 rfl) hc1121, fun z => Bool.noConfusion z, fun _ => ?_⟩
                                  refine ⟨false, xa_ok (T.mo 118 rfl) hc1121, fun z => Bool.noConfusion z, fun _ => ?_⟩
                                  refine ⟨false, xa_ok (T.mo 119 rfl) hc1121, fun z => Bool.noConfusion z, fun _ => ?_⟩
                                  refine ⟨false, xa_ok (T.mo 120 rfl) hc1121, fun z => Bool.noConfusion z, fun _ => ?_⟩
                                  refine ⟨false, xa_ok (T.mo 121 rfl) hc1121, fun z => Bool.noConfusion z, fun _ => ?_⟩
                                  refine ⟨true, xa_ok (T.mo 124 rfl) hc1121, fun _ ax1122 naax1122 => ?_, fun z => nomatch z⟩
                                  obtain ⟨told_1126, hx1127, hx892⟩ := bindS hx892
                                  refine x_set w905 (e_some (EL.e (el_disp (eal_cons (e_cv (S := rX K) (c := Xv.str) (e_xzS (a := ax1122) rfl xa907 (xs_ok (T.mo 122 rfl) hc1121).2 (xn_ok (T.mo 123 rfl) hc1121 (by decide))) (fun h => h)) eal_nil)))) (by first | (simp only [be1, bs1, ba1] at hx1127 ⊢; exact hx1127) | exact hx1127) ?_
                                  intro v1130 H1128 G1131 w1129 e1132 h1133
                                  have h1134 := Rep.mono _ e1132 h908
                                  have h1135 := Rep.mono _ e1132 h909
                                  have h1136 := Rep.mono _ e1132 h910
                                  have xa1137 := Xat.mono e1132 xa907
                                  refine x_next ?_
                                  have hx892 : told_1126 = s891 := Option.some.inj hx892
                                  subst hx892
                                  exact ⟨v1130, (none), G1131, w1129, (e906.trans e1132), rfl, h1133⟩
                                · rcases bifO hx892 with ⟨hc1138, hx892⟩ | ⟨_, hx892⟩
                                  · refine ⟨false, xa_ok (T.mo 125 rfl) hc1138, fun z => Bool.noConfusion z, fun _ => ?_⟩
                                    refine ⟨false, xa_ok (T.mo 126 rfl) hc1138, fun z => Bool.noConfusion z, fun _ => ?_⟩
                                    refine ⟨false, xa_ok (T.mo 127 rfl) hc1138, fun z => Bool.noConfusion z, fun _ => ?_⟩
                                    refine ⟨false, xa_ok (T.mo 128 rfl) hc1138, fun z => Bool.noConfusion z, fun _ => ?_⟩
                                    refine ⟨false, xa_ok (T.mo 129 rfl) hc1138, fun z => Bool.noConfusion z, fun _ => ?_⟩
                                    refine ⟨false, xa_ok (T.mo 130 rfl) hc1138, fun z => Bool.noConfusion z, fun _ => ?_⟩
                                    refine ⟨false, xa_ok (T.mo 131 rfl) hc1138, fun z => Bool.noConfusion z, fun _ => ?_⟩
                                    refine ⟨false, xa_ok (T.mo 132 rfl) hc1138, fun z => Bool.noConfusion z, fun _ => ?_⟩
                                    refine ⟨false, xa_ok (T.mo 133 rfl) hc1138, fun z => Bool.noConfusion z, fun _ => ?_⟩
                                    refine ⟨false, xa_ok (T.mo 134 rfl) hc1138, fun z => Bool.noConfusion z, fun _ => ?_⟩
                                    refine ⟨false, xa_ok (T.mo 135 rfl) hc1138, fun z => Bool.noConfusion z, fun _ => ?_⟩
                                    refine ⟨false, xa_ok (T.mo 136 rfl) hc1138, fun z => Bool.noConfusion z, fun _ => ?_⟩
                                    refine ⟨false, xa_ok (T.mo 137 rfl) hc1138, fun z => Bool.noConfusion z, fun _ => ?_⟩
                                    refine ⟨true, xa_ok (T.mo 140 rfl) hc1138, fun _ ax1139 naax1139 => ?_, fun z => nomatch z⟩
                                    obtain ⟨told_1143, hx1144, hx892⟩ := bindS hx892
                                    refine x_set w905 (e_some (EL.e (el_disp (eal_cons (e_cv (S := rX K) (c := Xv.int) (e_xz (a := ax1139) rfl xa907 (xs_ok (T.mo 138 rfl) hc1138).2 (xn_ok (T.mo 139 rfl) hc1138 (by decide))) (fun h => h)) eal_nil)))) (by first | (simp only [be1, bs1, ba1] at hx1144 ⊢; exact hx1144) | exact hx1144) ?_
                                    intro v1147 H1145 G1148 w1146 e1149 h1150
                                    have h1151 := Rep.mono _ e1149 h908
                                    have h1152 := Rep.mono _ e1149 h909
                                    have h1153 := Rep.mono _ e1149 h910
                                    have xa1154 := Xat.mono e1149 xa907
                                    refine x_next ?_
                                    have hx892 : told_1143 = s891 := Option.some.inj hx892
                                    subst hx892
                                    exact ⟨v1147, (none), G1148, w1146, (e906.trans e1149), rfl, h1150⟩
                                  · rcases bifO hx892 with ⟨hc1155, hx892⟩ | ⟨_, hx892⟩
                                    · refine ⟨false, xa_ok (T.mo 141 rfl) hc1155, fun z => Bool.noConfusion z, fun _ => ?_⟩
                                      refine ⟨false, xa_ok (T.mo 142 rfl) hc1155, fun z => Bool.noConfusion z, fun _ => ?_⟩
                                      refine ⟨false, xa_ok (T.mo 143 rfl) hc1155, fun z => Bool.noConfusion z, fun _ => ?_⟩
                                      refine ⟨false, xa_ok (T.mo 144 rfl) hc1155, fun z => Bool.noConfusion z, fun _ => ?_⟩
                                      refine ⟨false, xa_ok (T.mo 145 rfl) hc1155, fun z => Bool.noConfusion z, fun _ => ?_⟩
                                      refine ⟨false, xa_ok (T.mo 146 rfl) hc1155, fun z => Bool.noConfusion z, fun _ => ?_⟩
                                      refine ⟨false, xa_ok (T.mo 147 rfl) hc1155, fun z => Bool.noConfusion z, fun _ => ?_⟩
                                      refine ⟨false, xa_ok (T.mo 148 rfl) hc1155, fun z => Bool.noConfusion z, fun _ => ?_⟩
                                      refine ⟨false, xa_ok (T.mo 149 rfl) hc1155, fun z => Bool.noConfusion z, fun _ => ?_⟩
                                      refine ⟨false, xa_ok (T.mo 150 rfl) hc1155, fun z => Bool.noConfusion z, fun _ => ?_⟩
                                      refine ⟨false, xa_ok (T.mo 151 rfl) hc1155, fun z => Bool.noConfusion z, fun _ => ?_⟩
                                      refine ⟨false, xa_ok (T.mo 152 rfl) hc1155, fun z => Bool.noConfusion z, fun _ => ?_⟩
                                      refine ⟨false, xa_ok (T.mo 153 rfl) hc1155, fun z => Bool.noConfusion z, fun _ => ?_⟩
                                      refine ⟨false, xa_ok (T.mo 154 rfl) hc1155, fun z => Bool.noConfusion z, fun _ => ?_⟩
                                      refine ⟨true, xa_ok (T.mo 157 rfl) hc1155, fun _ ax1156 naax1156 => ?_, fun z => nomatch z⟩
                                      obtain ⟨told_1160, hx1161, hx892⟩ := bindS hx892
                                      refine x_set w905 (e_some (EL.e (el_disp (eal_cons (e_cv (S := rX K) (c := Xv.int) (e_xz (a := ax1156) rfl xa907 (xs_ok (T.mo 155 rfl) hc1155).2 (xn_ok (T.mo 156 rfl) hc1155 (by decide))) (fun h => h)) eal_nil)))) (by first | (simp only [be1, bs1, ba1] at hx1161 ⊢; exact hx1161) | exact hx1161) ?_
                                      intro v1164 H1162 G1165 w1163 e1166 h1167
                                      have h1168 := Rep.mono _ e1166 h908
                                      have h1169 := Rep.mono _ e1166 h909
                                      have h1170 := Rep.mono _ e1166 h910
                                      have xa1171 := Xat.mono e1166 xa907
                                      refine x_next ?_
                                      have hx892 : told_1160 = s891 := Option.some.inj hx892
                                      subst hx892
                                      exact ⟨v1164, (none), G1165, w1163, (e906.trans e1166), rfl, h1167⟩
                                    · cases hx892
      · intro x1172 he1173 H1174 G1175 w1176 e1177
        subst he1173
        have hx892 := sumR hx892
        have h1178 := Rep.mono _ e1177 h605
        have h1179 := Rep.mono _ e1177 h606
        have h1180 := Rep.mono _ e1177 h604
        refine x_next ?_
        have hx892 : told_597 = s891 := Option.some.inj hx892
        subst hx892
        exact ⟨v601, (none), G1175, w1176, e1177, rfl, h1180⟩
    · rintro σ' H1182 ⟨v893, u895, G1181, w897, e896, rfl, h894⟩
      have h1183 := Rep.mono _ e896 h605
      have h1184 := Rep.mono _ e896 h606
      obtain ⟨a1185, hx1186, h⟩ := bindS h
      have h : a1185 = r := Option.some.inj h
      subst h
      exact x_ret w897 (e_var (R := (rO (rL (rX K)))) (x := s891) rfl h894) hx1186 (fun v9 H9 G9 w9 e9 r9 => k v9 H9 G9 w9.upE r9)
def m__law_error_kinds (kind0 : Int) (one0 : Int) (two0 : Int) (names_here0 : (List Str)) (records0 : (List Addr)) : Option (List Bool) :=
  (some ([]) >>= fun told_1187 => ((m__law_raised kind0 one0 two0 names_here0 records0 >>= fun r1289 => Sum.elim (fun e1291 => (bif (["BadSize", "NotElement", "Ring", "NoJoin", "NoMeet", "AskedTwice", "Unanswered", "TooMany", "NoSide", "Clash", "OtherOrder", "NotSettled", "NotDue", "OverLimit", "BadLimit"] : List Str).contains e1291.cls then (some ([((["BadSize"] : List Str).contains e1291.cls), ((["NotElement"] : List Str).contains e1291.cls), ((["Ring"] : List Str).contains e1291.cls), ((["NoJoin"] : List Str).contains e1291.cls)]) >>= fun told_1304 => (catM told_1304 ([((["NoMeet"] : List Str).contains e1291.cls), ((["AskedTwice"] : List Str).contains e1291.cls), ((["Unanswered"] : List Str).contains e1291.cls)]) >>= fun told_1316 => (catM told_1316 ([((["TooMany"] : List Str).contains e1291.cls), ((["NoSide"] : List Str).contains e1291.cls), ((["Clash"] : List Str).contains e1291.cls), ((["OtherOrder"] : List Str).contains e1291.cls)]) >>= fun told_1328 => (catM told_1328 ([((["NotSettled"] : List Str).contains e1291.cls), ((["NotDue"] : List Str).contains e1291.cls), ((["OverLimit"] : List Str).contains e1291.cls)]) >>= fun told_1340 => (catM told_1340 ([((["BadLimit"] : List Str).contains e1291.cls), true]) >>= fun told_1352 => some told_1352))))) else none)) (fun x1364 => some told_1187) r1289) >>= fun s1282 => (some s1282 >>= fun a1377 => some a1377)))
theorem sc__law_error_kinds : FnScope ["_law_kind", "_law_one", "_law_two", "_law_names_here", "_law_records", "_law_told", "e"] ["_law_kind", "_law_one", "_law_two", "_law_names_here", "_law_records"] (defScope s__law_error_kinds) := ⟨rfl, rfl, rfl, by decide +kernel, rfl, by decide +kernel, by decide +kernel⟩
theorem ok__law_error_kinds (T : Tx K mg) : Fk P w K mg base CX0 4 "_law_error_kinds" ["_law_kind", "_law_one", "_law_two", "_law_names_here", "_law_records"] (PF (aC rI (aC rI (aC rI (aC (rL rS) (aC (rL rA) aN))))) (rL rB) (fun i => m__law_error_kinds i.1 i.2.1 i.2.2.1 i.2.2.2.1 i.2.2.2.2.1)) := by
  obtain ⟨fd__law_raised, G__law_raised, b__law_raised, k__law_raised, g__law_raised⟩ := ok__law_raised (w := w) (base := base) T
  obtain ⟨fd, F⟩ := T.def_ 6 rfl
  have nd := sc__law_error_kinds.nd
  refine fk_mk T.toTx (x := "_law_error_kinds") (T.glo 23 rfl) F (fun _ _ _ _ _ _ us hl => match us, hl with | [_, _, _, _, _], _ => rfl) (F.ok sc__law_error_kinds (fun vs H Q E h => ?_) (fun cdv A outer s H vs Q E hr h => ?_))
  · obtain ⟨G, ⟨kind0, one0, two0, names_here0, records0, ⟨⟩⟩, r, e0, ⟨vkind0, _, rfl, hkind0, vone0, _, rfl, hone0, vtwo0, _, rfl, htwo0, vnames_here0, _, rfl, hnames_here0, vrecords0, _, rfl, hrecords0, rfl⟩, h, k⟩ := h
    rfl
  · obtain ⟨G, ⟨kind0, one0, two0, names_here0, records0, ⟨⟩⟩, r, e0, ⟨vkind0, _, rfl, hkind0, vone0, _, rfl, hone0, vtwo0, _, rfl, htwo0, vnames_here0, _, rfl, hnames_here0, vrecords0, _, rfl, hrecords0, rfl⟩, h, k⟩ := h
    cases hkind0
    cases hone0
    cases htwo0
    have w0 := Wo.start e0
    have h : m__law_error_kinds kind0 one0 two0 names_here0 records0 = some r := h
    unfold m__law_error_kinds at h
    refine ⟨_, PSs.nox (pss_cons (ps_set (i := 5) nd rfl (Or.inl rfl) (pe_lst pa_nil)) (Evl.pss_cut (ps_tryA nd rfl rfl takes_no (fun _ _ _ tk1197 po1197 => (pss_cons (ps_expr (pe_callS G__law_raised (hr.mono (by decide)) rfl g__law_raised k__law_raised b__law_raised (passAt tk1197) (pa_cons (pv 0) (pa_cons (pv 1) (pa_cons (pv 2) (pa_cons (pv 3) (pa_cons (pv 4) pa_nil))))))) pss_nil)) (HdsA.as_ (i := 6) ⟨by rfl, by decide, Or.inl (T.glo 1 rfl)⟩ rfl rfl (fun a11197_0 oe1197_0 cls1197_0 d1197_0 pn1197_0 z1197_0 f1197_0 => (pss_cons (ps_set (i := 5) nd rfl (Or.inl rfl) (pe_lst (pa_cons (pe_callB (r := rIsZ K cls1197_0 d1197_0 a11197_0) (call_isZ z1197_0 f1197_0) (by rfl) (fr_isinstance T) (by decide +kernel) (pa_cons (pv 6) (pa_cons (pe_glob (v := .ref (He.ga K "BadSize")) (by rfl) (T.glo 2 rfl) rfl) pa_nil))) (pa_cons (pe_callB (r := rIsZ K cls1197_0 d1197_0 a11197_0) (call_isZ z1197_0 f1197_0) (by rfl) (fr_isinstance T) (by decide +kernel) (pa_cons (pv 6) (pa_cons (pe_glob (v := .ref (He.ga K "NotElement")) (by rfl) (T.glo 3 rfl) rfl) pa_nil))) (pa_cons (pe_callB (r := rIsZ K cls1197_0 d1197_0 a11197_0) (call_isZ z1197_0 f1197_0) (by rfl) (fr_isinstance T) (by decide +kernel) (pa_cons (pv 6) (pa_cons (pe_glob (v := .ref (He.ga K "Ring")) (by rfl) (T.glo 4 rfl) rfl) pa_nil))) (pa_cons (pe_callB (r := rIsZ K cls1197_0 d1197_0 a11197_0) (call_isZ z1197_0 f1197_0) (by rfl) (fr_isinstance T) (by decide +kernel) (pa_cons (pv 6) (pa_cons (pe_glob (v := .ref (He.ga K "NoJoin")) (by rfl) (T.glo 5 rfl) rfl) pa_nil))) pa_nil)))))) (pss_cons (ps_set (i := 5) nd rfl (Or.inl rfl) (pe_op op_cat (pv 5) (pe_lst (pa_cons (pe_callB (r := rIsZ K cls1197_0 d1197_0 a11197_0) (call_isZ z1197_0 f1197_0) (by rfl) (fr_isinstance T) (by decide +kernel) (pa_cons (pv 6) (pa_cons (pe_glob (v := .ref (He.ga K "NoMeet")) (by rfl) (T.glo 6 rfl) rfl) pa_nil))) (pa_cons (pe_callB (r := rIsZ K cls1197_0 d1197_0 a11197_0) (call_isZ z1197_0 f1197_0) (by rfl) (fr_isinstance T) (by decide +kernel) (pa_cons (pv 6) (pa_cons (pe_glob (v := .ref (He.ga K "AskedTwice")) (by rfl) (T.glo 7 rfl) rfl) pa_nil))) (pa_cons (pe_callB (r := rIsZ K cls1197_0 d1197_0 a11197_0) (call_isZ z1197_0 f1197_0) (by rfl) (fr_isinstance T) (by decide +kernel) (pa_cons (pv 6) (pa_cons (pe_glob (v := .ref (He.ga K "Unanswered")) (by rfl) (T.glo 8 rfl) rfl) pa_nil))) pa_nil)))))) (pss_cons (ps_set (i := 5) nd rfl (Or.inl rfl) (pe_op op_cat (pv 5) (pe_lst (pa_cons (pe_callB (r := rIsZ K cls1197_0 d1197_0 a11197_0) (call_isZ z1197_0 f1197_0) (by rfl) (fr_isinstance T) (by decide +kernel) (pa_cons (pv 6) (pa_cons (pe_glob (v := .ref (He.ga K "TooMany")) (by rfl) (T.glo 9 rfl) rfl) pa_nil))) (pa_cons (pe_callB (r := rIsZ K cls1197_0 d1197_0 a11197_0) (call_isZ z1197_0 f1197_0) (by rfl) (fr_isinstance T) (by decide +kernel) (pa_cons (pv 6) (pa_cons (pe_glob (v := .ref (He.ga K "NoSide")) (by rfl) (T.glo 10 rfl) rfl) pa_nil))) (pa_cons (pe_callB (r := rIsZ K cls1197_0 d1197_0 a11197_0) (call_isZ z1197_0 f1197_0) (by rfl) (fr_isinstance T) (by decide +kernel) (pa_cons (pv 6) (pa_cons (pe_glob (v := .ref (He.ga K "Clash")) (by rfl) (T.glo 11 rfl) rfl) pa_nil))) (pa_cons (pe_callB (r := rIsZ K cls1197_0 d1197_0 a11197_0) (call_isZ z1197_0 f1197_0) (by rfl) (fr_isinstance T) (by decide +kernel) (pa_cons (pv 6) (pa_cons (pe_glob (v := .ref (He.ga K "OtherOrder")) (by rfl) (T.glo 12 rfl) rfl) pa_nil))) pa_nil))))))) (pss_cons (ps_set (i := 5) nd rfl (Or.inl rfl) (pe_op op_cat (pv 5) (pe_lst (pa_cons (pe_callB (r := rIsZ K cls1197_0 d1197_0 a11197_0) (call_isZ z1197_0 f1197_0) (by rfl) (fr_isinstance T) (by decide +kernel) (pa_cons (pv 6) (pa_cons (pe_glob (v := .ref (He.ga K "NotSettled")) (by rfl) (T.glo 13 rfl) rfl) pa_nil))) (pa_cons (pe_callB (r := rIsZ K cls1197_0 d1197_0 a11197_0) (call_isZ z1197_0 f1197_0) (by rfl) (fr_isinstance T) (by decide +kernel) (pa_cons (pv 6) (pa_cons (pe_glob (v := .ref (He.ga K "NotDue")) (by rfl) (T.glo 14 rfl) rfl) pa_nil))) (pa_cons (pe_callB (r := rIsZ K cls1197_0 d1197_0 a11197_0) (call_isZ z1197_0 f1197_0) (by rfl) (fr_isinstance T) (by decide +kernel) (pa_cons (pv 6) (pa_cons (pe_glob (v := .ref (He.ga K "OverLimit")) (by rfl) (T.glo 15 rfl) rfl) pa_nil))) pa_nil)))))) (pss_cons (ps_set (i := 5) nd rfl (Or.inl rfl) (pe_op op_cat (pv 5) (pe_lst (pa_cons (pe_callB (r := rIsZ K cls1197_0 d1197_0 a11197_0) (call_isZ z1197_0 f1197_0) (by rfl) (fr_isinstance T) (by decide +kernel) (pa_cons (pv 6) (pa_cons (pe_glob (v := .ref (He.ga K "BadLimit")) (by rfl) (T.glo 16 rfl) rfl) pa_nil))) (pa_cons (pe_callB (r := rIsZ K cls1197_0 d1197_0 a11197_0) (call_isZ z1197_0 f1197_0) (by rfl) (fr_isinstance T) (by decide +kernel) (pa_cons (pv 6) (pa_cons (pe_bltn (v := .ty "ValueError") (by rfl) (fr_ValueError T) (by decide +kernel) rfl) pa_nil))) pa_nil))))) pss_nil)))))) HdsA.nil)) (pss_cons (ps_ret (pv 5)) pss_nil))), ?_⟩
    obtain ⟨told_1187, hx1188, h⟩ := bindS h
    refine x_set w0 (EL.e (el_disp (R := rB) eal_nil)) hx1188 ?_
    intro v1191 H1189 G1192 w1190 e1193 h1194
    have h1195 := Rep.mono _ e1193 hnames_here0
    have h1196 := Rep.mono _ e1193 hrecords0
    obtain ⟨s1282, hx1283, h⟩ := bindS h
    refine o_cut (fun σ' H' => ∃ v1284 : V, ∃ u1286 : Option V, ∃ G' : Hp, Wo G H [] G' H' [] ∧ Evl.Ex G1192 G' ∧ σ' = [some (V.int kind0), some (V.int one0), some (V.int two0), some vnames_here0, some vrecords0, some v1284, u1286] ∧ (rL rB).r G' v1284 s1282) ?_ ?_
    · refine o_try ?_
      obtain ⟨r1289, hx1290, hx1283⟩ := bindS hx1283
      refine x_callX w1190 (ex_call (ea_cons (e_var (R := rI) (x := kind0) rfl rfl) (ea_cons (e_var (R := rI) (x := one0) rfl rfl) (ea_cons (e_var (R := rI) (x := two0) rfl rfl) (ea_cons (e_var (R := (rL rS)) (x := names_here0) rfl h1195) (ea_cons (e_var (R := (rL rA)) (x := records0) rfl h1196) ea_nil)))))) (by first | (simp only [be1, bs1, ba1] at hx1290 ⊢; exact hx1290) | exact hx1290) ?_ ?_
      · intro e1291 he1292 d1293 H1294 G1295 w1296 e1297 xa1298
        subst he1292
        have hx1283 := sumL hx1283
        have h1299 := Rep.mono _ e1297 h1195
        have h1300 := Rep.mono _ e1297 h1196
        have h1301 := Rep.mono _ e1297 h1194
        rcases bifO hx1283 with ⟨hc1302, hx1283⟩ | ⟨_, hx1283⟩
        · refine ⟨true, xa_ok (T.mo 175 rfl) hc1302, fun _ ax1303 naax1303 => ?_, fun z => nomatch z⟩
          obtain ⟨told_1304, hx1305, hx1283⟩ := bindS hx1283
          refine x_set w1296 (EL.e (el_disp (eal_cons (e_isZ rfl xa1298 (xs_ok (T.mo 158 rfl) hc1302).1 (fun _ h => h) (xk_ok (T.mo 159 rfl) hc1302)) (eal_cons (e_isZ rfl xa1298 (xs_ok (T.mo 158 rfl) hc1302).1 (fun _ h => h) (xk_ok (T.mo 160 rfl) hc1302)) (eal_cons (e_isZ rfl xa1298 (xs_ok (T.mo 158 rfl) hc1302).1 (fun _ h => h) (xk_ok (T.mo 161 rfl) hc1302)) (eal_cons (e_isZ rfl xa1298 (xs_ok (T.mo 158 rfl) hc1302).1 (fun _ h => h) (xk_ok (T.mo 162 rfl) hc1302)) eal_nil)))))) hx1305 ?_
          intro v1308 H1306 G1309 w1307 e1310 h1311
          have h1312 := Rep.mono _ e1310 h1299
          have h1313 := Rep.mono _ e1310 h1300
          have h1314 := Rep.mono _ e1310 h1301
          have xa1315 := Xat.mono e1310 xa1298
          obtain ⟨told_1316, hx1317, hx1283⟩ := bindS hx1283
          refine x_set w1307 (EL.e (el_op rrl_cat (e_var (R := (rL rB)) (x := told_1304) rfl h1311) (EL.e (el_disp (eal_cons (e_isZ rfl xa1315 (xs_ok (T.mo 158 rfl) hc1302).1 (fun _ h => h) (xk_ok (T.mo 163 rfl) hc1302)) (eal_cons (e_isZ rfl xa1315 (xs_ok (T.mo 158 rfl) hc1302).1 (fun _ h => h) (xk_ok (T.mo 164 rfl) hc1302)) (eal_cons (e_isZ rfl xa1315 (xs_ok (T.mo 158 rfl) hc1302).1 (fun _ h => h) (xk_ok (T.mo 165 rfl) hc1302)) eal_nil))))))) (by first | (simp only [be1, bs1, ba1] at hx1317 ⊢; exact hx1317) | exact hx1317) ?_
          intro v1320 H1318 G1321 w1319 e1322 h1323
          have h1324 := Rep.mono _ e1322 h1312
          have h1325 := Rep.mono _ e1322 h1313
          have h1326 := Rep.mono _ e1322 h1311
          have xa1327 := Xat.mono e1322 xa1315
          obtain ⟨told_1328, hx1329, hx1283⟩ := bindS hx1283
          refine x_set w1319 (EL.e (el_op rrl_cat (e_var (R := (rL rB)) (x := told_1316) rfl h1323) (EL.e (el_disp (eal_cons (e_isZ rfl xa1327 (xs_ok (T.mo 158 rfl) hc1302).1 (fun _ h => h) (xk_ok (T.mo 166 rfl) hc1302)) (eal_cons (e_isZ rfl xa1327 (xs_ok (T.mo 158 rfl) hc1302).1 (fun _ h => h) (xk_ok (T.mo 167 rfl) hc1302)) (eal_cons (e_isZ rfl xa1327 (xs_ok (T.mo 158 rfl) hc1302).1 (fun _ h => h) (xk_ok (T.mo 168 rfl) hc1302)) (eal_cons (e_isZ rfl xa1327 (xs_ok (T.mo 158 rfl) hc1302).1 (fun _ h => h) (xk_ok (T.mo 169 rfl) hc1302)) eal_nil)))))))) (by first | (simp only [be1, bs1, ba1] at hx1329 ⊢; exact hx1329) | exact hx1329) ?_
          intro v1332 H1330 G1333 w1331 e1334 h1335
          have h1336 := Rep.mono _ e1334 h1324
          have h1337 := Rep.mono _ e1334 h1325
          have h1338 := Rep.mono _ e1334 h1323
          have xa1339 := Xat.mono e1334 xa1327
          obtain ⟨told_1340, hx1341, hx1283⟩ := bindS hx1283
          refine x_set w1331 (EL.e (el_op rrl_cat (e_var (R := (rL rB)) (x := told_1328) rfl h1335) (EL.e (el_disp (eal_cons (e_isZ rfl xa1339 (xs_ok (T.mo 158 rfl) hc1302).1 (fun _ h => h) (xk_ok (T.mo 170 rfl) hc1302)) (eal_cons (e_isZ rfl xa1339 (xs_ok (T.mo 158 rfl) hc1302).1 (fun _ h => h) (xk_ok (T.mo 171 rfl) hc1302)) (eal_cons (e_isZ rfl xa1339 (xs_ok (T.mo 158 rfl) hc1302).1 (fun _ h => h) (xk_ok (T.mo 172 rfl) hc1302)) eal_nil))))))) (by first | (simp only [be1, bs1, ba1] at hx1341 ⊢; exact hx1341) | exact hx1341) ?_
          intro v1344 H1342 G1345 w1343 e1346 h1347
          have h1348 := Rep.mono _ e1346 h1336
          have h1349 := Rep.mono _ e1346 h1337
          have h1350 := Rep.mono _ e1346 h1335
          have xa1351 := Xat.mono e1346 xa1339
          obtain ⟨told_1352, hx1353, hx1283⟩ := bindS hx1283
          refine x_set w1343 (EL.e (el_op rrl_cat (e_var (R := (rL rB)) (x := told_1340) rfl h1347) (EL.e (el_disp (eal_cons (e_isZ rfl xa1351 (xs_ok (T.mo 158 rfl) hc1302).1 (fun _ h => h) (xk_ok (T.mo 173 rfl) hc1302)) (eal_cons (e_isZ rfl xa1351 (xs_ok (T.mo 158 rfl) hc1302).1 (fun _ h => h) (xkT_ok (T.mo 174 rfl) hc1302)) eal_nil)))))) (by first | (simp only [be1, bs1, ba1] at hx1353 ⊢; exact hx1353) | exact hx1353) ?_
          intro v1356 H1354 G1357 w1355 e1358 h1359
          have h1360 := Rep.mono _ e1358 h1348
          have h1361 := Rep.mono _ e1358 h1349
          have h1362 := Rep.mono _ e1358 h1347
          have xa1363 := Xat.mono e1358 xa1351
          refine x_next ?_
          have hx1283 : told_1352 = s1282 := Option.some.inj hx1283
          subst hx1283
          exact ⟨v1356, (none), G1357, w1355, (((((e1297.trans e1310).trans e1322).trans e1334).trans e1346).trans e1358), rfl, h1359⟩
        · cases hx1283
      · intro x1364 he1365 H1366 G1367 w1368 e1369
        subst he1365
        have hx1283 := sumR hx1283
        have h1370 := Rep.mono _ e1369 h1195
        have h1371 := Rep.mono _ e1369 h1196
        have h1372 := Rep.mono _ e1369 h1194
        refine x_next ?_
        have hx1283 : told_1187 = s1282 := Option.some.inj hx1283
        subst hx1283
        exact ⟨v1191, (none), G1367, w1368, e1369, rfl, h1372⟩
    · rintro σ' H1374 ⟨v1284, u1286, G1373, w1288, e1287, rfl, h1285⟩
      have h1375 := Rep.mono _ e1287 h1195
      have h1376 := Rep.mono _ e1287 h1196
      obtain ⟨a1377, hx1378, h⟩ := bindS h
      have h : a1377 = r := Option.some.inj h
      subst h
      exact x_ret w1288 (e_var (R := (rL rB)) (x := s1282) rfl h1285) hx1378 (fun v9 H9 G9 w9 e9 r9 => k v9 H9 G9 w9.upE r9)
def m_law_b1 (x1440 : Int) (x1502 : Int) (x1517 : ((List Str) × (List Int))) (as1548 : (List Addr)) (due_1599 : (List (List Xv))) (x1631 : Int) (s1619 : Unit) : Option (Stp Unit Bool) :=
  (((m__law_error_fields x1631 x1440 x1502 x1517.1 as1548 >>= fun o => o) >>= fun t1638 => (atI due_1599 x1631 >>= fun t1639 => (neX t1638 t1639))) >>= fun b1640 => bif b1640 then (some false >>= fun a1644 => some (Stp.rt a1644)) else (((rngM 0 (15 : Int) >>= fun xs1654 => mapS (fun x1651 => some (x1651 == x1631)) xs1654) >>= fun t1655 => catM t1655 ([true])) >>= fun kinds_1656 => ((m__law_error_kinds x1631 x1440 x1502 x1517.1 as1548 >>= fun t1669 => some (!decide (t1669 = kinds_1656))) >>= fun b1670 => bif b1670 then (some false >>= fun a1674 => some (Stp.rt a1674)) else some (Stp.nx ()))))
noncomputable def m_law (script0 : (List Int)) : Option Bool :=
  (m__law_pot script0 >>= fun pot_here_1379 => (some (100 : Int) >>= fun x1388 => (m__law_draw pot_here_1379 x1388 >>= fun x1393 => ((powM (10 : Int) (8 : Int) >>= fun t1403 => (powM (10 : Int) (15 : Int) >>= fun t1404 => some ([(1 : Int), t1403, t1404]))) >>= fun x1405 => (some (3 : Int) >>= fun x1415 => (m__law_draw x1393.2 x1415 >>= fun x1420 => (atI x1405 x1420.1 >>= fun x1430 => (mulM x1393.1 x1430 >>= fun x1440 => (some (100 : Int) >>= fun x1450 => (m__law_draw x1420.2 x1450 >>= fun x1455 => ((powM (10 : Int) (8 : Int) >>= fun t1465 => (powM (10 : Int) (15 : Int) >>= fun t1466 => some ([(1 : Int), t1465, t1466]))) >>= fun x1467 => (some (3 : Int) >>= fun x1477 => (m__law_draw x1455.2 x1477 >>= fun x1482 => (atI x1467 x1482.1 >>= fun x1492 => (mulM x1455.1 x1492 >>= fun x1502 => (some (2 : Int) >>= fun x1512 => (m__law_names x1482.2 x1512 >>= fun x1517 => (((atI x1517.1 (0 : Int) >>= fun t1531 => m_Record___init__ t1531 ([]) x1440) >>= fun t1536 => ((atI x1517.1 (1 : Int) >>= fun t1534 => (((atI x1517.1 (0 : Int) >>= fun t1532 => some (t1532, x1502)) >>= fun t1533 => some ([t1533])) >>= fun t1535 => m_Record___init__ t1534 t1535 x1440)) >>= fun t1537 => some ([t1536, t1537]))) >>= fun records_1538 => allA records_1538.length (fun as1548 => (some ([(Xv.int x1440), (Xv.int x1502)]) >>= fun pair_1552 => ((((atI x1517.1 (0 : Int) >>= fun t1563 => some (Xv.str t1563)) >>= fun t1564 => some ([t1564])) >>= fun t1569 => (((atI x1517.1 (0 : Int) >>= fun t1565 => some (Xv.str t1565)) >>= fun t1566 => some ([t1566])) >>= fun t1570 => (((atI x1517.1 (0 : Int) >>= fun t1567 => some (Xv.str t1567)) >>= fun t1568 => some ([t1568])) >>= fun t1571 => some ([[(Xv.int x1440)], [(Xv.int x1440)], pair_1552, pair_1552, pair_1552, t1569, t1570, [(Xv.int x1440)], t1571])))) >>= fun due_1572 => (((((atI as1548 (0 : Int) >>= fun t1584 => some (Xv.adr t1584)) >>= fun t1586 => ((atI as1548 (1 : Int) >>= fun t1585 => some (Xv.adr t1585)) >>= fun t1587 => some ([t1586, t1587, (Xv.str ("values" : Str))]))) >>= fun t1595 => (((((atI x1517.1 (0 : Int) >>= fun t1588 => (atI x1517.1 (1 : Int) >>= fun t1589 => some (t1588, t1589))) >>= fun t1590 => some ([t1590.1, t1590.2])) >>= fun t1591 => some (Xv.txs t1591)) >>= fun t1592 => some ([t1592])) >>= fun t1596 => (((atI x1517.1 (0 : Int) >>= fun t1593 => some (Xv.str t1593)) >>= fun t1594 => some ([t1594])) >>= fun t1597 => some ([t1595, [], t1596, t1597, [(Xv.int x1440)], [(Xv.int x1440)]])))) >>= fun t1598 => catM due_1572 t1598) >>= fun due_1599 => (some (15 : Int) >>= fun n1612 => rngM 0 n1612 >>= fun xs1614 => forL (m_law_b1 x1440 x1502 x1517 as1548 due_1599) xs1614 () >>= Sum.elim (fun s1619 => (some true >>= fun a1688 => some a1688)) (fun r => some r))))))))))))))))))))))))
theorem sc_law : FnScope ["_law_script", "_law_pot_here", "_law_one", "_law_two", "_law_names_here", "_law_records", "_law_pair", "_law_due", "_law_kind", "_law_kinds", "_law_k"] ["_law_script"] (defScope s_law) := ⟨rfl, rfl, rfl, by decide +kernel, rfl, by decide +kernel, by decide +kernel⟩
theorem ok_law (T : Tx K mg) : ∃ fd, FunD K "law" "law" (defArgs s_law) (defBody s_law) (defScope s_law) [] [] (He.ga K "law") fd ∧ ∀ base : Heap, FnOk P w K mg base CX0 5 (He.ga K "law") fd ["_law_script"] (PF (aC (rScr K) aN) rB (fun i => m_law i.1)) := by
  obtain ⟨fd, F⟩ := T.def_ 7 rfl
  refine ⟨fd, F, fun base => ?_⟩
  obtain ⟨fd__law_pot, G__law_pot, b__law_pot, k__law_pot, g__law_pot⟩ := ok__law_pot (w := w) (base := base) T
  obtain ⟨fd__law_draw, G__law_draw, b__law_draw, k__law_draw, g__law_draw⟩ := ok__law_draw (w := w) (base := base) T
  obtain ⟨fd__law_names, G__law_names, b__law_names, k__law_names, g__law_names⟩ := ok__law_names (w := w) (base := base) T
  obtain ⟨fd_Record___init__, G_Record___init__, b_Record___init__⟩ := ok_Record___init__ (w := w) (base := base) T
  obtain ⟨fd__law_error_fields, G__law_error_fields, b__law_error_fields, k__law_error_fields, g__law_error_fields⟩ := ok__law_error_fields (w := w) (base := base) T
  obtain ⟨fd__law_error_kinds, G__law_error_kinds, b__law_error_kinds, k__law_error_kinds, g__law_error_kinds⟩ := ok__law_error_kinds (w := w) (base := base) T
  have nd := sc_law.nd
  refine (F.ok sc_law (fun vs H Q E h => ?_) (fun cdv A outer s H vs Q E hr h => ?_))
  · obtain ⟨G, ⟨script0, ⟨⟩⟩, r, e0, ⟨vscript0, _, rfl, hscript0, rfl⟩, h, k⟩ := h
    rfl
  · obtain ⟨G, ⟨script0, ⟨⟩⟩, r, e0, ⟨vscript0, _, rfl, hscript0, rfl⟩, h, k⟩ := h
    have w0 := Wo.start e0
    have h : m_law script0 = some r := h
    unfold m_law at h
    refine ⟨_, PSs.nox (pss_cons (ps_set (i := 1) nd rfl (Or.inl rfl) (pe_call G__law_pot (hr.mono (by decide)) rfl g__law_pot k__law_pot b__law_pot .nil pass0 (pa_cons (pv 0) pa_nil))) (pss_cons (ps_set (i := 2) nd rfl (Or.inl rfl) (pe_op op_mul (pe_call G__law_draw (hr.mono (by decide)) rfl g__law_draw k__law_draw b__law_draw .nil pass0 (pa_cons (pv 1) (pa_cons pe_int pa_nil))) (pe_ix (r := rIxL K) ix_list (pe_lst (pa_cons pe_int (pa_cons (pe_op op_pow pe_int pe_int) (pa_cons (pe_op op_pow pe_int pe_int) pa_nil)))) (pe_call G__law_draw (hr.mono (by decide)) rfl g__law_draw k__law_draw b__law_draw .nil pass0 (pa_cons (pv 1) (pa_cons pe_int pa_nil))) (fun _ _ => rfl)))) (pss_cons (ps_set (i := 3) nd rfl (Or.inl rfl) (pe_op op_mul (pe_call G__law_draw (hr.mono (by decide)) rfl g__law_draw k__law_draw b__law_draw .nil pass0 (pa_cons (pv 1) (pa_cons pe_int pa_nil))) (pe_ix (r := rIxL K) ix_list (pe_lst (pa_cons pe_int (pa_cons (pe_op op_pow pe_int pe_int) (pa_cons (pe_op op_pow pe_int pe_int) pa_nil)))) (pe_call G__law_draw (hr.mono (by decide)) rfl g__law_draw k__law_draw b__law_draw .nil pass0 (pa_cons (pv 1) (pa_cons pe_int pa_nil))) (fun _ _ => rfl)))) (pss_cons (ps_set (i := 4) nd rfl (Or.inl rfl) (pe_call G__law_names (hr.mono (by decide)) rfl g__law_names k__law_names b__law_names .nil pass0 (pa_cons (pv 1) (pa_cons pe_int pa_nil)))) (pss_cons (ps_set (i := 5) nd rfl (Or.inl rfl) (pe_lst (pa_cons (pe_make (T.mkr 34 rfl) G_Record___init__ (hr.mono (by decide)) rfl (T.glo 17 rfl) b_Record___init__ .nil pass0 (pa_cons (pe_ix (r := rIxL K) ix_list (pv 4) pe_int (fun _ _ => rfl)) (pa_cons (pe_lst pa_nil) (pa_cons (pv 2) pa_nil)))) (pa_cons (pe_make (T.mkr 34 rfl) G_Record___init__ (hr.mono (by decide)) rfl (T.glo 17 rfl) b_Record___init__ .nil pass0 (pa_cons (pe_ix (r := rIxL K) ix_list (pv 4) pe_int (fun _ _ => rfl)) (pa_cons (pe_lst (pa_cons (pe_tup (pa_cons (pe_ix (r := rIxL K) ix_list (pv 4) pe_int (fun _ _ => rfl)) (pa_cons (pv 3) pa_nil))) pa_nil)) (pa_cons (pv 2) pa_nil)))) pa_nil)))) (pss_cons (ps_set (i := 6) nd rfl (Or.inl rfl) (pe_lst (pa_cons (pv 2) (pa_cons (pv 3) pa_nil)))) (pss_cons (ps_set (i := 7) nd rfl (Or.inl rfl) (pe_lst (pa_cons (pe_lst (pa_cons (pv 2) pa_nil)) (pa_cons (pe_lst (pa_cons (pv 2) pa_nil)) (pa_cons (pv 6) (pa_cons (pv 6) (pa_cons (pv 6) (pa_cons (pe_lst (pa_cons (pe_ix (r := rIxL K) ix_list (pv 4) pe_int (fun _ _ => rfl)) pa_nil)) (pa_cons (pe_lst (pa_cons (pe_ix (r := rIxL K) ix_list (pv 4) pe_int (fun _ _ => rfl)) pa_nil)) (pa_cons (pe_lst (pa_cons (pv 2) pa_nil)) (pa_cons (pe_lst (pa_cons (pe_ix (r := rIxL K) ix_list (pv 4) pe_int (fun _ _ => rfl)) pa_nil)) pa_nil))))))))))) (pss_cons (ps_set (i := 7) nd rfl (Or.inl rfl) (pe_op op_cat (pv 7) (pe_lst (pa_cons (pe_lst (pa_cons (pe_ix (r := rIxL K) ix_list (pv 5) pe_int (fun _ _ => rfl)) (pa_cons (pe_ix (r := rIxL K) ix_list (pv 5) pe_int (fun _ _ => rfl)) (pa_cons pe_str pa_nil)))) (pa_cons (pe_lst pa_nil) (pa_cons (pe_lst (pa_cons (pe_tup (pa_cons (pe_ix (r := rIxL K) ix_list (pv 4) pe_int (fun _ _ => rfl)) (pa_cons (pe_ix (r := rIxL K) ix_list (pv 4) pe_int (fun _ _ => rfl)) pa_nil))) pa_nil)) (pa_cons (pe_lst (pa_cons (pe_ix (r := rIxL K) ix_list (pv 4) pe_int (fun _ _ => rfl)) pa_nil)) (pa_cons (pe_lst (pa_cons (pv 2) pa_nil)) (pa_cons (pe_lst (pa_cons (pv 2) pa_nil)) pa_nil))))))))) (pss_cons (ps_for PassesOwn.never rfl (pi_range1 (by rfl) (fr_range T) (pa_cons pe_int pa_nil)) (pg_name (i := 8) nd rfl (Or.inr rfl)) (pss_cons (ps_if (pt_cmpR (r := rNeX K) (op_neX hr.units) (pe_call G__law_error_fields (hr.mono (by decide)) rfl g__law_error_fields k__law_error_fields b__law_error_fields .nil pass0 (pa_cons (pv 8) (pa_cons (pv 2) (pa_cons (pv 3) (pa_cons (pv 4) (pa_cons (pv 5) pa_nil)))))) (pe_ix (r := rIxL K) ix_list (pv 7) (pv 8) (fun _ _ => rfl)) (nomark _)) (pss_cons (ps_ret pe_bl) pss_nil) pss_nil) (pss_cons (ps_set (i := 9) nd rfl (Or.inl rfl) (pe_op op_cat (pe_lc (own := [("_law_k", 10)]) (by rfl) nd (pi_range1 (by rfl) (fr_range T) (pa_cons pe_int pa_nil)) (blkOk_by (by kernel_rfl)) (fun _ _ _ _ _ => pg_name (i := 10) nd rfl (by first | exact Or.inl rfl | exact Or.inr rfl)) (fun _ _ _ _ _ => pts_nil) (fun _ _ _ _ _ => (pe_cmpR op_eq (pv 10) (pv 8) (nomark _)))) (pe_lst (pa_cons pe_bl pa_nil)))) (pss_cons (ps_if (pt_cmpR (r := rNeP K) (op_neP hr.units) (pe_call G__law_error_kinds (hr.mono (by decide)) rfl g__law_error_kinds k__law_error_kinds b__law_error_kinds .nil pass0 (pa_cons (pv 8) (pa_cons (pv 2) (pa_cons (pv 3) (pa_cons (pv 4) (pa_cons (pv 5) pa_nil)))))) (pv 9) (nomark _)) (pss_cons (ps_ret pe_bl) pss_nil) pss_nil) pss_nil)))) (pss_cons (ps_ret pe_bl) pss_nil)))))))))), ?_⟩
    obtain ⟨pot_here_1379, hx1380, h⟩ := bindS h
    refine x_setL w0 (el_call (ea_cons (e_var (R := (rScr K)) (x := script0) rfl hscript0) ea_nil)) (by first | (simp only [be1, bs1, ba1] at hx1380 ⊢; exact hx1380) | exact hx1380) ?_
    intro p1383 H1381 G1384 n1385 w1382 e1386
    have h1387 := Rep.mono _ e1386 hscript0
    refine x_setO ?_
    refine o_op ?_
    refine o_call ?_
    refine o_cons ?_
    refine o_var rfl ?_
    refine o_cons ?_
    obtain ⟨x1388, hx1389, h⟩ := bindS h
    refine c_i w1382 e_int hx1389 ?_
    intro H1390 w1391
    refine o_nil ?_
    obtain ⟨x1393, hx1394, h⟩ := bindS h
    refine c_p1 (i := 0) (j := (x1388, ())) w1391 rfl ⟨_, _, rfl, rfl, rfl⟩ hx1394 ?_
    intro u1395 H1396 G1397 w1398 e1399 r1400
    have h1401 := Rep.mono _ e1399 h1387
    cases r1400
    have w1398 : Wo G H [] G1397 H1396 [(p1383, cL rI x1393.2)] := w1398
    refine o_op ?_
    obtain ⟨x1405, hx1406, h⟩ := bindS h
    refine c_e w1398 (EL.e (el_disp (eal_cons e_int (eal_cons (e_op rr_pow e_int e_int) (eal_cons (e_op rr_pow e_int e_int) eal_nil))))) (by first | (simp only [be1, bs1, ba1] at hx1406 ⊢; exact hx1406) | exact hx1406) ?_
    intro v1409 H1407 G1410 w1408 e1411 h1412
    have h1413 := Rep.mono _ e1411 h1401
    refine o_call ?_
    refine o_cons ?_
    refine o_var rfl ?_
    refine o_cons ?_
    obtain ⟨x1415, hx1416, h⟩ := bindS h
    refine c_i w1408 e_int hx1416 ?_
    intro H1417 w1418
    refine o_nil ?_
    obtain ⟨x1420, hx1421, h⟩ := bindS h
    refine c_p1 (i := 0) (j := (x1415, ())) w1418 rfl ⟨_, _, rfl, rfl, rfl⟩ hx1421 ?_
    intro u1422 H1423 G1424 w1425 e1426 r1427
    have h1428 := Rep.mono _ e1426 h1413
    have h1429 := Rep.mono _ e1426 h1412
    cases r1427
    have w1425 : Wo G H [] G1424 H1423 [(p1383, cL rI x1420.2)] := w1425
    obtain ⟨x1430, hx1431, h⟩ := bindS h
    refine c_rr rr_ixL w1425 h1429 rfl hx1431 ?_
    intro u1432 H1433 G1434 w1435 e1436 r1437
    have h1438 := Rep.mono _ e1436 h1428
    have h1439 := Rep.mono _ e1436 h1429
    cases r1437
    obtain ⟨x1440, hx1441, h⟩ := bindS h
    refine c_rr rr_mul w1435 rfl rfl hx1441 ?_
    intro u1442 H1443 G1444 w1445 e1446 r1447
    have h1448 := Rep.mono _ e1446 h1438
    have h1449 := Rep.mono _ e1446 h1439
    cases r1447
    refine x_setO ?_
    refine o_op ?_
    refine o_call ?_
    refine o_cons ?_
    refine o_var rfl ?_
    refine o_cons ?_
    obtain ⟨x1450, hx1451, h⟩ := bindS h
    refine c_i w1445 e_int hx1451 ?_
    intro H1452 w1453
    refine o_nil ?_
    obtain ⟨x1455, hx1456, h⟩ := bindS h
    refine c_p1 (i := 0) (j := (x1450, ())) w1453 rfl ⟨_, _, rfl, rfl, rfl⟩ hx1456 ?_
    intro u1457 H1458 G1459 w1460 e1461 r1462
    have h1463 := Rep.mono _ e1461 h1448
    cases r1462
    have w1460 : Wo G H [] G1459 H1458 [(p1383, cL rI x1455.2)] := w1460
    refine o_op ?_
    obtain ⟨x1467, hx1468, h⟩ := bindS h
    refine c_e w1460 (EL.e (el_disp (eal_cons e_int (eal_cons (e_op rr_pow e_int e_int) (eal_cons (e_op rr_pow e_int e_int) eal_nil))))) (by first | (simp only [be1, bs1, ba1] at hx1468 ⊢; exact hx1468) | exact hx1468) ?_
    intro v1471 H1469 G1472 w1470 e1473 h1474
    have h1475 := Rep.mono _ e1473 h1463
    refine o_call ?_
    refine o_cons ?_
    refine o_var rfl ?_
    refine o_cons ?_
    obtain ⟨x1477, hx1478, h⟩ := bindS h
    refine c_i w1470 e_int hx1478 ?_
    intro H1479 w1480
    refine o_nil ?_
    obtain ⟨x1482, hx1483, h⟩ := bindS h
    refine c_p1 (i := 0) (j := (x1477, ())) w1480 rfl ⟨_, _, rfl, rfl, rfl⟩ hx1483 ?_
    intro u1484 H1485 G1486 w1487 e1488 r1489
    have h1490 := Rep.mono _ e1488 h1475
    have h1491 := Rep.mono _ e1488 h1474
    cases r1489
    have w1487 : Wo G H [] G1486 H1485 [(p1383, cL rI x1482.2)] := w1487
    obtain ⟨x1492, hx1493, h⟩ := bindS h
    refine c_rr rr_ixL w1487 h1491 rfl hx1493 ?_
    intro u1494 H1495 G1496 w1497 e1498 r1499
    have h1500 := Rep.mono _ e1498 h1490
    have h1501 := Rep.mono _ e1498 h1491
    cases r1499
    obtain ⟨x1502, hx1503, h⟩ := bindS h
    refine c_rr rr_mul w1497 rfl rfl hx1503 ?_
    intro u1504 H1505 G1506 w1507 e1508 r1509
    have h1510 := Rep.mono _ e1508 h1500
    have h1511 := Rep.mono _ e1508 h1501
    cases r1509
    refine x_setO ?_
    refine o_call ?_
    refine o_cons ?_
    refine o_var rfl ?_
    refine o_cons ?_
    obtain ⟨x1512, hx1513, h⟩ := bindS h
    refine c_i w1507 e_int hx1513 ?_
    intro H1514 w1515
    refine o_nil ?_
    obtain ⟨x1517, hx1518, h⟩ := bindS h
    refine c_p1l (i := 0) (j := (x1512, ())) w1515 rfl ⟨_, _, rfl, rfl, rfl⟩ hx1518 ?_
    intro p1521 H1519 G1522 n1523 w1520 e1524
    have h1525 := Rep.mono _ e1524 h1510
    have w1520 : Wo G H [] G1522 H1519 [(p1521, cL rS x1517.1), (p1383, cL rI x1517.2)] := w1520
    obtain ⟨G1526, w1527, e1528, h1529⟩ := w1520.freezeAt (i := 0) rfl n1523
    have h1530 := Rep.mono _ e1528 h1525
    have w1527 : Wo G H [] G1526 H1519 [(p1383, cL rI x1517.2)] := w1527
    obtain ⟨records_1538, hx1539, h⟩ := bindS h
    refine x_set w1527 (EL.e (el_disp (eal_cons (e_makeS (ea_cons (e_op rr_ixL (e_var (R := (rL rS)) (x := x1517.1) rfl h1529) e_int) (ea_cons (EL.e (el_disp (R := (rP rS rI)) eal_nil)) (ea_cons (e_var (R := rI) (x := x1440) rfl rfl) ea_nil)))) (eal_cons (e_makeS (ea_cons (e_op rr_ixL (e_var (R := (rL rS)) (x := x1517.1) rfl h1529) e_int) (ea_cons (EL.e (el_disp (eal_cons (e_pair (e_op rr_ixL (e_var (R := (rL rS)) (x := x1517.1) rfl h1529) e_int) (e_var (R := rI) (x := x1502) rfl rfl)) eal_nil))) (ea_cons (e_var (R := rI) (x := x1440) rfl rfl) ea_nil)))) eal_nil)))) (by first | (simp only [be1, bs1, ba1] at hx1539 ⊢; exact hx1539) | exact hx1539) ?_
    intro v1542 H1540 G1543 w1541 e1544 h1545
    have h1546 := Rep.mono _ e1544 h1530
    have h1547 := Rep.mono _ e1544 h1529
    obtain ⟨as1548, la1549, h1550⟩ := by_adr h1545
    have h := allA_at h la1549
    obtain ⟨pair_1552, hx1553, h⟩ := bindS h
    refine x_set w1541 (EL.e (el_disp (eal_cons (e_cv (S := rX K) (c := Xv.int) (e_var (R := rI) (x := x1440) rfl rfl) (fun h => h)) (eal_cons (e_cv (S := rX K) (c := Xv.int) (e_var (R := rI) (x := x1502) rfl rfl) (fun h => h)) eal_nil)))) (by first | (simp only [be1, bs1, ba1] at hx1553 ⊢; exact hx1553) | exact hx1553) ?_
    intro v1556 H1554 G1557 w1555 e1558 h1559
    have h1560 := Rep.mono _ e1558 h1546
    have h1561 := Rep.mono _ e1558 h1547
    have h1562 := Rep.mono _ e1558 h1550
    obtain ⟨due_1572, hx1573, h⟩ := bindS h
    refine x_set w1555 (EL.e (el_disp (eal_cons (EL.e (el_disp (eal_cons (e_cv (S := rX K) (c := Xv.int) (e_var (R := rI) (x := x1440) rfl rfl) (fun h => h)) eal_nil))) (eal_cons (EL.e (el_disp (eal_cons (e_cv (S := rX K) (c := Xv.int) (e_var (R := rI) (x := x1440) rfl rfl) (fun h => h)) eal_nil))) (eal_cons (e_var (R := (rL (rX K))) (x := pair_1552) rfl h1559) (eal_cons (e_var (R := (rL (rX K))) (x := pair_1552) rfl h1559) (eal_cons (e_var (R := (rL (rX K))) (x := pair_1552) rfl h1559) (eal_cons (EL.e (el_disp (eal_cons (e_cv (S := rX K) (c := Xv.str) (e_op rr_ixL (e_var (R := (rL rS)) (x := x1517.1) rfl h1561) e_int) (fun h => h)) eal_nil))) (eal_cons (EL.e (el_disp (eal_cons (e_cv (S := rX K) (c := Xv.str) (e_op rr_ixL (e_var (R := (rL rS)) (x := x1517.1) rfl h1561) e_int) (fun h => h)) eal_nil))) (eal_cons (EL.e (el_disp (eal_cons (e_cv (S := rX K) (c := Xv.int) (e_var (R := rI) (x := x1440) rfl rfl) (fun h => h)) eal_nil))) (eal_cons (EL.e (el_disp (eal_cons (e_cv (S := rX K) (c := Xv.str) (e_op rr_ixL (e_var (R := (rL rS)) (x := x1517.1) rfl h1561) e_int) (fun h => h)) eal_nil))) eal_nil))))))))))) (by first | (simp only [be1, bs1, ba1] at hx1573 ⊢; exact hx1573) | exact hx1573) ?_
    intro v1576 H1574 G1577 w1575 e1578 h1579
    have h1580 := Rep.mono _ e1578 h1560
    have h1581 := Rep.mono _ e1578 h1561
    have h1582 := Rep.mono _ e1578 h1562
    have h1583 := Rep.mono _ e1578 h1559
    obtain ⟨due_1599, hx1600, h⟩ := bindS h
    refine x_set w1575 (EL.e (el_op rrl_cat (e_var (R := (rL (rL (rX K)))) (x := due_1572) rfl h1579) (EL.e (el_disp (eal_cons (EL.e (el_disp (eal_cons (e_cv (S := rX K) (c := Xv.adr) (e_op rr_ixL (e_var (R := (rL rA)) (x := as1548) rfl h1582) e_int) (fun h => h)) (eal_cons (e_cv (S := rX K) (c := Xv.adr) (e_op rr_ixL (e_var (R := (rL rA)) (x := as1548) rfl h1582) e_int) (fun h => h)) (eal_cons (e_cv (S := rX K) (c := Xv.str) e_str (fun h => h)) eal_nil))))) (eal_cons (EL.e (el_disp (R := (rX K)) eal_nil)) (eal_cons (EL.e (el_disp (eal_cons (e_cv (S := rX K) (c := Xv.txs) (e_cv (S := rT rS) (c := fun p => [p.1, p.2]) (e_pair (e_op rr_ixL (e_var (R := (rL rS)) (x := x1517.1) rfl h1581) e_int) (e_op rr_ixL (e_var (R := (rL rS)) (x := x1517.1) rfl h1581) e_int)) (fun h => rP_rT h)) (fun h => h)) eal_nil))) (eal_cons (EL.e (el_disp (eal_cons (e_cv (S := rX K) (c := Xv.str) (e_op rr_ixL (e_var (R := (rL rS)) (x := x1517.1) rfl h1581) e_int) (fun h => h)) eal_nil))) (eal_cons (EL.e (el_disp (eal_cons (e_cv (S := rX K) (c := Xv.int) (e_var (R := rI) (x := x1440) rfl rfl) (fun h => h)) eal_nil))) (eal_cons (EL.e (el_disp (eal_cons (e_cv (S := rX K) (c := Xv.int) (e_var (R := rI) (x := x1440) rfl rfl) (fun h => h)) eal_nil))) eal_nil)))))))))) (by first | (simp only [be1, bs1, ba1] at hx1600 ⊢; exact hx1600) | exact hx1600) ?_
    intro v1603 H1601 G1604 w1602 e1605 h1606
    have h1607 := Rep.mono _ e1605 h1580
    have h1608 := Rep.mono _ e1605 h1581
    have h1609 := Rep.mono _ e1605 h1582
    have h1610 := Rep.mono _ e1605 h1583
    have h1611 := Rep.mono _ e1605 h1579
    obtain ⟨n1612, hx1613, h⟩ := bindS h
    obtain ⟨xs1614, hx1615, h⟩ := bindS h
    obtain ⟨t1617, hx1618, h⟩ := bindS h
    refine x_forR w1602 (ea_cons (Sim.E.is e_int hx1613) ea_nil) rfl hx1615 (fun i G' H' σ' => ∃ s1619 : Unit, ∃ u1620 : Option V, ∃ u1621 : Option V, ∃ u1622 : Option V, Wo G H [] G' H' [(p1383, cL rI x1517.2)] ∧ Evl.Ex G1604 G' ∧ σ' = [some vscript0, some (V.ref p1383), some (V.int x1440), some (V.int x1502), some (V.ref p1521), some v1542, some v1556, some v1603, u1621, u1622, u1620] ∧ forL (m_law_b1 x1440 x1502 x1517 as1548 due_1599) (xs1614.drop i) s1619 = some t1617) ?_ ?_ ?_
    · intro G' H' w' e'
      exact ⟨(), (none), (none), (none), w', e', rfl, hx1618⟩
    · rintro i1630 x1631 σ' G1626 H1629 hx1632 ⟨s1619, u1620, u1621, u1622, w1627, e1628, rfl, hm1624⟩
      obtain ⟨q1625, hb1623, hm1624⟩ := forL_at hx1632 hm1624
      have h1633 := Rep.mono _ e1628 h1607
      have h1634 := Rep.mono _ e1628 h1608
      have h1635 := Rep.mono _ e1628 h1609
      have h1636 := Rep.mono _ e1628 h1610
      have h1637 := Rep.mono _ e1628 h1606
      refine g_name ?_
      unfold m_law_b1 at hb1623
      obtain ⟨b1640, hx1641, hb1623⟩ := bindS hb1623
      refine x_if w1627 (et_T (e_op rr_neX (e_nar (S := rL (rX K)) (c := fun o => o) (e_call (ea_cons (e_var (R := rI) (x := x1631) rfl rfl) (ea_cons (e_var (R := rI) (x := x1440) rfl rfl) (ea_cons (e_var (R := rI) (x := x1502) rfl rfl) (ea_cons (e_var (R := (rL rS)) (x := x1517.1) rfl (Rep.mono _ w1627.ex h1634)) (ea_cons (e_var (R := (rL rA)) (x := as1548) rfl (Rep.mono _ w1627.ex h1635)) ea_nil)))))) (fun h e => by have e : _ = some _ := e; subst e; exact h)) (e_op rr_ixL (e_var (R := (rL (rL (rX K)))) (x := due_1599) rfl (Rep.mono _ w1627.ex h1637)) (e_var (R := rI) (x := x1631) rfl rfl)))) (by first | (simp only [be1, bs1, ba1] at hx1641 ⊢; exact hx1641) | exact hx1641) ?_ ?_
      · intro hbb1640 H1642 w1643
        subst hbb1640
        have hb1623 := bifT hb1623
        obtain ⟨a1644, hx1645, hb1623⟩ := bindS hb1623
        have hb1623 : some (Stp.rt a1644) = some q1625 := hb1623
        cases hb1623
        have hm1624 : some (Sum.inr a1644) = some t1617 := hm1624
        cases hm1624
        have h : a1644 = r := Option.some.inj h
        subst h
        exact x_ret w1643 e_bl hx1645 (fun v9 H9 G9 w9 e9 r9 => k v9 H9 G9 w9.upE r9)
      · intro hbb1640 H1646 w1647
        subst hbb1640
        have hb1623 := bifF hb1623
        refine x_next ?_
        obtain ⟨kinds_1656, hx1657, hb1623⟩ := bindS hb1623
        refine x_set w1647 (EL.e (el_op rrl_cat (EL.e (el_mapR (el_lcR (j := 10) (ea_cons e_int ea_nil) (fun _ => rfl) (fun _ _ _ _ _ _ => et_yes) (fun x1651 G1652 W1653 eG1648 eW1649 eX1650 => (e_op rr_eqI (e_var (R := rI) (x := x1651) rfl rfl) (e_var (R := rI) (x := x1631) rfl rfl)))))) (EL.e (el_disp (eal_cons e_bl eal_nil))))) (by first | (simp only [be1, bs1, ba1] at hx1657 ⊢; exact hx1657) | exact hx1657) ?_
        intro v1660 H1658 G1661 w1659 e1662 h1663
        have h1664 := Rep.mono _ e1662 h1633
        have h1665 := Rep.mono _ e1662 h1634
        have h1666 := Rep.mono _ e1662 h1635
        have h1667 := Rep.mono _ e1662 h1636
        have h1668 := Rep.mono _ e1662 h1637
        obtain ⟨b1670, hx1671, hb1623⟩ := bindS hb1623
        refine x_if w1659 (et_T (e_op (rr_neD (dtL dtB) (by decide)) (e_call (ea_cons (e_var (R := rI) (x := x1631) rfl rfl) (ea_cons (e_var (R := rI) (x := x1440) rfl rfl) (ea_cons (e_var (R := rI) (x := x1502) rfl rfl) (ea_cons (e_var (R := (rL rS)) (x := x1517.1) rfl (Rep.mono _ w1659.ex h1665)) (ea_cons (e_var (R := (rL rA)) (x := as1548) rfl (Rep.mono _ w1659.ex h1666)) ea_nil)))))) (e_var (R := (rL rB)) (x := kinds_1656) rfl (Rep.mono _ w1659.ex h1663)))) (by first | (simp only [be1, bs1, ba1] at hx1671 ⊢; exact hx1671) | exact hx1671) ?_ ?_
        · intro hbb1670 H1672 w1673
          subst hbb1670
          have hb1623 := bifT hb1623
          obtain ⟨a1674, hx1675, hb1623⟩ := bindS hb1623
          have hb1623 : some (Stp.rt a1674) = some q1625 := hb1623
          cases hb1623
          have hm1624 : some (Sum.inr a1674) = some t1617 := hm1624
          cases hm1624
          have h : a1674 = r := Option.some.inj h
          subst h
          exact x_ret w1673 e_bl hx1675 (fun v9 H9 G9 w9 e9 r9 => k v9 H9 G9 w9.upE r9)
        · intro hbb1670 H1676 w1677
          subst hbb1670
          have hb1623 := bifF hb1623
          refine x_next ?_
          refine x_next ?_
          have hb1623 : Stp.nx () = q1625 := Option.some.inj hb1623
          subst hb1623
          exact ⟨G1661, (), (u1620), (some (V.int x1631)), (some v1660), w1677, (e1628.trans e1662), rfl, hm1624⟩
    · rintro σ' G1678 H1681 ⟨s1619, u1620, u1621, u1622, w1679, e1680, rfl, hm1624⟩
      have hm1624 := forL_end hm1624
      subst hm1624
      have h := elimL h
      have h1683 := Rep.mono _ e1680 h1607
      have h1684 := Rep.mono _ e1680 h1608
      have h1685 := Rep.mono _ e1680 h1609
      have h1686 := Rep.mono _ e1680 h1610
      have h1687 := Rep.mono _ e1680 h1606
      obtain ⟨a1688, hx1689, h⟩ := bindS h
      have h : a1688 = r := Option.some.inj h
      subst h
      exact x_ret w1679 e_bl hx1689 (fun v9 H9 G9 w9 e9 r9 => k v9 H9 G9 w9.upE r9)
end
end My
namespace My
open PySem L2 Sim
section
variable {α β γ σ ρ : Type}
def tab (n : Nat) (f : Nat → α) : List α := (List.range n).map f
theorem tab_len {n : Nat} {f : Nat → α} : (tab n f).length = n := by simp [tab]
theorem tab_mem {n : Nat} {f : Nat → α} {x : α} : x ∈ tab n f ↔ ∃ i, i < n ∧ f i = x := by simp [tab]
theorem ixN_nat {n i : Nat} (h : i < n) : ixN n (i : Int) = some i := by
  unfold ixN
  rw [if_pos (by omega), if_pos (by omega)]
  rfl
theorem atI_nat {xs : List α} {i : Nat} (h : i < xs.length) : atI xs (i : Int) = some xs[i] := by
  unfold atI
  rw [ixN_nat h]
  exact List.getElem?_eq_getElem h
theorem rngM0 {n : Nat} (h : n ≤ 100000) : rngM 0 (n : Int) = some (tab n fun i => (i : Int)) := by
  unfold rngM
  rw [if_pos (by omega)]
  unfold rng tab
  simp
theorem mapO_map {f : β → Option γ} {a : α → β} {g : α → γ} : ∀ {xs : List α}, (∀ x ∈ xs, f (a x) = some (g x)) → mapO f (xs.map a) = some (xs.map g)
  | [], _ => rfl
  | x :: xs, h => by
    show (f (a x) >>= fun y => mapO f (xs.map a) >>= fun ys => some (y :: ys)) = _
    rw [h x (List.mem_cons_self ..), mapO_map (fun y hy => h y (List.mem_cons_of_mem _ hy))]
    rfl
theorem sz_t {n : Nat} (h : n < 100000) : sz n = true := by simp [sz, h]
theorem mapS_map {xs : List α} {f : α → Option β} {g : α → β} (hn : xs.length < 100000) (h : ∀ x ∈ xs, f x = some (g x)) : mapS f xs = some (xs.map g) := by
  unfold mapS
  rw [sz_t hn]
  have := mapO_map (f := f) (a := id) (g := g) (xs := xs) h
  rwa [List.map_id] at this
theorem forL_nx {body : α → Unit → Option (Stp Unit ρ)} : ∀ {xs : List α}, (∀ x ∈ xs, body x () = some (.nx ())) → forL body xs () = some (.inl ())
  | [], _ => rfl
  | x :: xs, h => by
    show (body x () >>= stpK (forL body xs)) = _
    rw [h x (List.mem_cons_self ..)]
    exact forL_nx fun y hy => h y (List.mem_cons_of_mem _ hy)
theorem forL_nxT {body : α → Unit → Option (Stp Unit ρ)} {n : Nat} {a : Nat → α} (h : ∀ i < n, body (a i) () = some (.nx ())) : forL body (tab n a) () = some (.inl ()) :=
  forL_nx fun x hx => by obtain ⟨i, hi, rfl⟩ := tab_mem.mp hx; exact h i hi
/-- a loop that keeps something -/
theorem forS_keep {body : α → σ → Option σ} {I : Nat → σ → Prop} : ∀ {xs : List α} {k : Nat} {s : σ}, I k s → (∀ x ∈ xs, ∀ j s, k ≤ j → j < k + xs.length → I j s → ∃ s', body x s = some s' ∧ I (j + 1) s') →
    ∃ s', forS body xs s = some s' ∧ I (k + xs.length) s'
  | [], k, s, h, _ => ⟨s, rfl, h⟩
  | x :: xs, k, s, h, hs => by
    obtain ⟨s1, e1, h1⟩ := hs x (List.mem_cons_self ..) k s (Nat.le_refl _) (by simp) h
    obtain ⟨s2, e2, h2⟩ := forS_keep (xs := xs) (k := k + 1) h1 fun y hy j t hj hj' => hs y (List.mem_cons_of_mem _ hy) j t (by omega) (by simp; omega)
    refine ⟨s2, ?_, ?_⟩
    · show (body x s >>= forS body xs) = _
      rw [e1]; exact e2
    · have : k + (x :: xs).length = k + 1 + xs.length := by simp; omega
      rw [this]; exact h2
end

/-- the pairs lie below n -/
def InR (n : Nat) (ps : List (Int × Int)) : Prop := ∀ p ∈ ps, ∃ a b : Nat, a < n ∧ b < n ∧ p = ((a : Int), (b : Int))
theorem InR.tail {n : Nat} {p} {ps : List (Int × Int)} (h : InR n (p :: ps)) : InR n ps := fun q hq => h q (List.mem_cons_of_mem _ hq)
/-! pop -/
section
open PyProof.Rows
end
end My

namespace My
open PySem L2 Sim PyProof.Rows
/-! ### the pot -/
theorem draw_eq (pot : List Int) {n : Nat} (h : 0 < n) : ∃ (v : Nat) (pot' : List Int), m__law_draw pot (n : Int) = some ((v : Int), pot') ∧ v < n := by
  unfold m__law_draw
  cases e : ((pot.length : Int) == 0) with
  | true => exact ⟨0, pot, rfl, h⟩
  | false =>
    have h0 : 0 < pot.length := by rw [beq_eq_false_iff_ne] at e; omega
    simp only [Option.bind_eq_bind, bs, cond_false]
    unfold popM
    rw [List.getElem?_eq_getElem (show pot.length - 1 < pot.length by omega)]
    simp only [Option.bind_eq_bind, bs]
    unfold modM
    rw [if_pos (by omega)]
    have h1 := Int.emod_nonneg (pot[pot.length - 1]) (show (n : Int) ≠ 0 by omega)
    have h2 := Int.emod_lt_of_pos (pot[pot.length - 1]) (show (0 : Int) < n by omega)
    refine ⟨(pot[pot.length - 1] % (n : Int)).toNat, pot.dropLast, ?_, by omega⟩
    simp only [bs]
    rw [show (((pot[pot.length - 1] % (n : Int)).toNat : Nat) : Int) = pot[pot.length - 1] % (n : Int) by omega]
theorem draw_lit (pot : List Int) (n : Nat) (h : 0 < n) {z : Int} (hz : z = (n : Int)) : ∃ (v : Nat) (pot' : List Int), m__law_draw pot z = some ((v : Int), pot') ∧ v < n := by
  subst hz; exact draw_eq pot h
theorem pot_b2 {k : Nat} {x : Int} {s : List Int × Int} (h1 : s.1.length ≤ k) (hk : k < 100000) : ∃ s', m__law_pot_b2 x s = some s' ∧ s'.1.length ≤ k + 1 := by
  obtain ⟨p, r⟩ := s
  unfold m__law_pot_b2
  simp only [Option.bind_eq_bind, bs]
  have hd : fdivM r 100 = some (r / 100) := by unfold fdivM; rw [if_pos (by decide)]
  have hm : modM r 100 = some (r % 100) := by unfold modM; rw [if_pos (by decide)]
  have ha : appM p (r % 100) = some (p ++ [r % 100]) := by unfold appM; rw [sz_t (show p.length < 100000 from Nat.lt_of_le_of_lt h1 hk)]; rfl
  rw [hd, hm]
  have h1 : p.length ≤ k := h1
  cases (decide ((0 : Int) < r) || x == 0) with
  | true =>
    simp only [cond_true, bs, ha]
    exact ⟨_, rfl, by simp; exact h1⟩
  | false =>
    simp only [cond_false, bs]
    exact ⟨_, rfl, by simp; omega⟩
theorem pot_b1 {ns : List Int} {i k : Nat} {s : List Int} (hi : i < ns.length) (hi' : i < 63) (h1 : s.length ≤ k) (hk : k + 60 < 100000) : ∃ s', m__law_pot_b1 ns (i : Int) s = some s' ∧ s'.length ≤ k + 60 := by
  unfold m__law_pot_b1
  rw [atI_nat hi]
  simp only [Option.bind_eq_bind, bs]
  generalize hr : (if ns[i] < 0 then -ns[i] else ns[i]) = r
  have hr0 : 0 ≤ r := by rw [← hr]; split <;> omega
  have hp : powM 10 18 = some 1000000000000000000 := by decide
  rw [hp]
  simp only [bs]
  have loop : ∀ (m : Nat) (r : Int), m ≤ 60 → ∃ s', ((rngM 0 (m : Int)).bind fun xs1671 => (forS m__law_pot_b2 xs1671 (s, r)).bind fun s1676 => some s1676.1) = some s' ∧ s'.length ≤ k + 60 := by
    intro m r hm
    rw [rngM0 (by omega)]
    simp only [bs]
    obtain ⟨t, e, ht⟩ := forS_keep (body := m__law_pot_b2) (xs := tab m fun i => (i : Int)) (k := k) (I := fun j (s : List Int × Int) => s.1.length ≤ j) (s := (s, r)) h1 (by
      intro x _ j s hj hj' hs
      rw [tab_len] at hj'
      exact pot_b2 hs (by omega))
    rw [e]
    rw [tab_len] at ht
    exact ⟨_, rfl, by omega⟩
  cases e : decide (r < 1000000000000000000) with
  | false =>
    simp only [cond_false, bs]
    obtain ⟨s', e2, h2⟩ := loop 60 r (by omega)
    exact ⟨s', e2, h2⟩
  | true =>
    have hr1 : r < 1000000000000000000 := of_decide_eq_true e
    simp only [cond_true, bs]
    have k1 : mulM 2 r = some (2 * r) := by unfold mulM; rw [if_pos (by omega)]
    have k2 : mulM 2 (i : Int) = some (2 * (i : Int)) := by unfold mulM; rw [if_pos (by omega)]
    have k3 : ∀ z, mulM z (48271 + 2 * (i : Int)) = some (z * (48271 + 2 * (i : Int))) := fun z => by unfold mulM; rw [if_pos (by omega)]
    rw [k1, k2]
    simp only [bs]
    rw [k3]
    simp only [bs]
    have k4 : ∀ z, modM z 2147483647 = some (z % 2147483647) := fun z => by unfold modM; rw [if_pos (by decide)]
    have k5 : ∀ z, modM z 2147483629 = some (z % 2147483629) := fun z => by unfold modM; rw [if_pos (by decide)]
    rw [k4]
    simp only [bs]
    generalize hq : ((2 * r + if decide (ns[i] < 0) = true then (1 : Int) else 0) * (48271 + 2 * (i : Int))) % 2147483647 = q
    have q0 : 0 ≤ q := by rw [← hq]; exact Int.emod_nonneg _ (by decide)
    have q1 : q < 2147483647 := by rw [← hq]; exact Int.emod_lt_of_pos _ (by decide)
    have k6 : mulM q q = some (q * q) := by unfold mulM; rw [if_pos (by omega)]
    have k7 : mulM q (i : Int) = some (q * (i : Int)) := by unfold mulM; rw [if_pos (by omega)]
    rw [k6, k7]
    simp only [bs]
    rw [k5]
    simp only [bs]
    obtain ⟨s', e2, h2⟩ := loop 4 ((q * q + q * (i : Int)) % 2147483629) (by omega)
    exact ⟨s', e2, h2⟩
theorem pot_eq (ns : List Int) : ∃ p, m__law_pot ns = some p := by
  unfold m__law_pot
  simp only [Option.bind_eq_bind, bs]
  have hn : ∃ n : Nat, (if (63 : Int) < (ns.length : Int) then (63 : Int) else (ns.length : Int)) = (n : Int) ∧ n ≤ 63 ∧ n ≤ ns.length := by
    split
    · exact ⟨63, rfl, by omega, by omega⟩
    · exact ⟨ns.length, rfl, by omega, by omega⟩
  obtain ⟨n, e, h1, h2⟩ := hn
  rw [e, rngM0 (by omega)]
  simp only [bs]
  obtain ⟨t, e, ht⟩ := forS_keep (body := m__law_pot_b1 ns) (xs := tab n fun i => (i : Int)) (k := 0) (I := fun j (s : List Int) => s.length ≤ j * 60) (s := []) (by simp) (by
    intro x hx j s hj hj' hs
    rw [tab_len] at hj'
    obtain ⟨i, hi, rfl⟩ := tab_mem.mp hx
    obtain ⟨s', e1, h1⟩ := pot_b1 (ns := ns) (i := i) (k := j * 60) (s := s) (by omega) (by omega) hs (by omega)
    exact ⟨s', e1, by omega⟩)
  rw [e]
  exact ⟨_, rfl⟩

end My

namespace My
theorem ctr {α : Type} {a b : α} : (bif true then a else b) = a := Eq.trans (Eq.refl _) (Eq.refl _)
theorem cfa {α : Type} {a b : α} : (bif false then a else b) = b := Eq.trans (Eq.refl _) (Eq.refl _)
end My

namespace My
open PySem L2 Sim PyProof.Rows
/-! ### names -/
theorem lsub {α : Type} [DecidableEq α] : ∀ {l l2 : List α}, l.Nodup → (∀ x ∈ l, x ∈ l2) → l.length ≤ l2.length
  | [], _, _, _ => Nat.zero_le _
  | x :: xs, l2, h, hs => by
    have hx := hs x (List.mem_cons_self ..)
    obtain ⟨h1, h2⟩ := List.nodup_cons.mp h
    have := lsub (l := xs) (l2 := l2.erase x) h2 fun y hy => by
      have hne : y ≠ x := fun e => h1 (e ▸ hy)
      exact (List.mem_erase_of_ne hne).mpr (hs y (List.mem_cons_of_mem _ hy))
    rw [List.length_erase_of_mem hx] at this
    have := List.length_pos_of_mem hx
    simp only [List.length_cons]
    omega
theorem addS_ok {x y : Str} (h : x.length + y.length < 100000) : addS x y = some (x ++ y) := by unfold addS; rw [decide_eq_true h]; rfl
theorem len1 (c : Nat) : (⟨#[c]⟩ : Str).length = 1 := rfl
theorem mulS_ok (c : Nat) {v : Nat} (h : v < 4) : ∃ z, mulS ⟨#[c]⟩ (v : Int) = some z ∧ z.length ≤ 3 := by
  have hc : decide ((v : Int) < 100 ∧ -100 < (v : Int) ∧ (⟨#[c]⟩ : Str).length < 1000) = true := by
    rw [len1]; exact decide_eq_true ⟨by omega, by omega, by omega⟩
  unfold mulS
  rw [hc]
  refine ⟨_, rfl, ?_⟩
  rcases v with _ | _ | _ | _ | v
  · show 0 ≤ 3
    omega
  · show 1 ≤ 3
    omega
  · show 2 ≤ 3
    omega
  · show 3 ≤ 3
    omega
  · omega
theorem sgl : ("abcdefghijklmnopqrstuvwxyzABCDEFGHIJKLMNOPQRSTUVWXYZ0123456789" : Str).cps.toList.length = 62 := by decide +kernel
theorem ixS_ok {v : Nat} (h : v < 62) : ∃ c, ixS ("abcdefghijklmnopqrstuvwxyzABCDEFGHIJKLMNOPQRSTUVWXYZ0123456789" : Str) (v : Int) = some ⟨#[c]⟩ := by
  unfold ixS
  have e : ("abcdefghijklmnopqrstuvwxyzABCDEFGHIJKLMNOPQRSTUVWXYZ0123456789" : Str).length = 62 := by
    rw [← sgl]; rfl
  rw [e, decide_eq_true (by omega), ctr, atI_nat (by rw [sgl]; exact h)]
  exact ⟨_, rfl⟩
theorem any_mem {s : List Str} {z : Str} : (s.any fun y => y == z) = decide (z ∈ s) := by
  by_cases h : z ∈ s
  · rw [decide_eq_true h, List.any_eq_true]
    exact ⟨z, h, by simp⟩
  · rw [decide_eq_false h, List.any_eq_false]
    intro y hy
    simp
    rintro rfl
    exact h hy
/-- short, or with an x at its end -/
def Pr (z : Str) : Prop := z.length ≤ 4 ∨ z.cps.toList.getLast? = some 120
/-- what is known of a name behind j tries -/
def Nm (ns : List Str) (j : Nat) (z : Str) : Prop := Pr z ∧ z.length ≤ 10 + j ∧ (z ∉ ns ∨ ∃ l : List Str, l.Nodup ∧ l.length = j ∧ ∀ y ∈ l, y ∈ ns ∧ y.length < z.length)
theorem names_b2 {s : List Str × List Int} {x : Int} {j : Nat} {z : Str} (hj : j < 1000) (h : Nm s.1 j z) : ∃ z', m__law_names_b2 s x z = some z' ∧ Nm s.1 (j + 1) z' := by
  unfold m__law_names_b2
  simp only [Option.bind_eq_bind, bs]
  rw [any_mem]
  obtain ⟨h0, h1, h2⟩ := h
  by_cases hz : z ∈ s.1
  · have hx : ("x" : Str).length = 1 := rfl
    rw [decide_eq_true hz, ctr, addS_ok (by rw [hx]; omega)]
    simp only [bs]
    have hl : (z ++ ("x" : Str)).length = z.length + 1 := by rw [PySem.Str.length_append, hx]
    refine ⟨_, rfl, .inr (show (z.cps ++ #[120]).toList.getLast? = some 120 by simp), by rw [hl]; omega, .inr ?_⟩
    rcases h2 with h2 | ⟨l, l1, l2, l3⟩
    · exact absurd hz h2
    · refine ⟨z :: l, List.nodup_cons.mpr ⟨fun hm => absurd (l3 z hm).2 (Nat.lt_irrefl _), l1⟩, by rw [List.length_cons, l2], fun y hy => ?_⟩
      rw [hl]
      rcases List.mem_cons.mp hy with rfl | hy
      · exact ⟨hz, by omega⟩
      · exact ⟨(l3 y hy).1, by have := (l3 y hy).2; omega⟩
  · rw [decide_eq_false hz, cfa]
    exact ⟨_, rfl, h0, by omega, .inl hz⟩
theorem names_eqL (pot : List Int) {many : Nat} (hm : many ≤ 100) : ∃ ns pot', m__law_names pot (many : Int) = some (ns, pot') ∧ ns.Nodup ∧ ns.length = many ∧ ∀ y ∈ ns, Pr y ∧ y.length ≤ 200 := by
  unfold m__law_names
  simp only [Option.bind_eq_bind, bs]
  rw [rngM0 (by omega)]
  simp only [bs]
  suffices h : ∀ (k i : Nat) (s : List Str × List Int), i + k = many → s.1.Nodup → s.1.length = i → (∀ y ∈ s.1, Pr y ∧ y.length ≤ 200) → ∃ s', forS (m__law_names_b1 ("abcdefghijklmnopqrstuvwxyzABCDEFGHIJKLMNOPQRSTUVWXYZ0123456789" : Str)) ((List.range' i k).map fun i : Nat => (i : Int)) s = some s' ∧ s'.1.Nodup ∧ s'.1.length = many ∧ ∀ y ∈ s'.1, Pr y ∧ y.length ≤ 200 by
    obtain ⟨s', e, h1, h2⟩ := h many 0 ([], pot) (by omega) List.nodup_nil rfl (fun y hy => (nomatch hy))
    have e' : forS (m__law_names_b1 ("abcdefghijklmnopqrstuvwxyzABCDEFGHIJKLMNOPQRSTUVWXYZ0123456789" : Str)) (tab many fun i => (i : Int)) ([], pot) = some s' := by
      unfold tab
      rw [List.range_eq_range']
      exact e
    rw [e']
    exact ⟨_, _, rfl, h1, h2⟩
  intro k
  induction k with
  | zero => intro i s hi h1 h2 h0; exact ⟨s, rfl, h1, by omega, h0⟩
  | succ k ih =>
    intro i s hi h1 h2 h0
    obtain ⟨ns, p⟩ := s
    replace h0 : ∀ y ∈ ns, Pr y ∧ y.length ≤ 200 := h0
    replace h1 : ns.Nodup := h1
    replace h2 : ns.length = i := h2
    show ∃ s', (m__law_names_b1 _ (i : Int) (ns, p) >>= forS (m__law_names_b1 _) ((List.range' (i + 1) k).map fun i : Nat => (i : Int))) = some s' ∧ _
    have step : ∃ s', m__law_names_b1 ("abcdefghijklmnopqrstuvwxyzABCDEFGHIJKLMNOPQRSTUVWXYZ0123456789" : Str) (i : Int) (ns, p) = some s' ∧ s'.1.Nodup ∧ s'.1.length = i + 1 ∧ ∀ y ∈ s'.1, Pr y ∧ y.length ≤ 200 := by
      unfold m__law_names_b1
      simp only [Option.bind_eq_bind, bs]
      obtain ⟨a, p1, e, ha⟩ := draw_lit p 62 (by decide) (z := 62) rfl
      rw [e]
      simp only [bs]
      obtain ⟨c, e⟩ := ixS_ok ha
      rw [e]
      simp only [bs]
      obtain ⟨b, p2, e, hb⟩ := draw_lit p1 4 (by decide) (z := 4) rfl
      rw [e]
      simp only [bs]
      obtain ⟨z, e, hz⟩ := mulS_ok c hb
      rw [e]
      simp only [bs]
      obtain ⟨a', p3, e, ha'⟩ := draw_lit p2 62 (by decide) (z := 62) rfl
      rw [e]
      simp only [bs]
      obtain ⟨c', e⟩ := ixS_ok ha'
      rw [e]
      simp only [bs]
      rw [addS_ok (by rw [len1]; omega)]
      simp only [bs]
      rw [rngM0 (by omega)]
      simp only [bs]
      obtain ⟨z', e, h30, h3, h4⟩ := forS_keep (body := m__law_names_b2 (ns, p)) (xs := tab i fun i => (i : Int)) (k := 0) (I := Nm ns) (s := z ++ ⟨#[c']⟩) ⟨.inl (by rw [PySem.Str.length_append, len1]; omega), by rw [PySem.Str.length_append, len1]; omega, .inr ⟨[], List.nodup_nil, rfl, fun y hy => by cases hy⟩⟩ (fun x _ j s _ hj hs => names_b2 (s := (ns, p)) (by rw [tab_len] at hj; omega) hs)
      rw [e]
      simp only [bs]
      have h5 : z' ∉ ns := by
        rcases h4 with h4 | ⟨l, l1, l2, l3⟩
        · exact h4
        · intro hz'
          have := lsub (l := z' :: l) (l2 := ns) (List.nodup_cons.mpr ⟨fun hm => absurd (l3 z' hm).2 (Nat.lt_irrefl _), l1⟩) (fun y hy => by
            rcases List.mem_cons.mp hy with rfl | hy
            · exact hz'
            · exact (l3 y hy).1)
          rw [List.length_cons, l2, tab_len, h2] at this
          omega
      unfold appM
      rw [sz_t (by omega)]
      refine ⟨_, rfl, ?_, by simp [h2], fun y hy => ?_⟩
      · show (ns ++ [z']).Nodup
        rw [List.nodup_append]
        exact ⟨h1, by simp, fun x hx y hy => by
          rw [List.mem_singleton] at hy
          subst hy
          exact fun e => h5 (e ▸ hx)⟩
      · rcases List.mem_append.mp hy with hy | hy
        · exact h0 y hy
        · rw [List.mem_singleton.mp hy]
          exact ⟨h30, by rw [tab_len] at h3; omega⟩
    obtain ⟨s1, e, n1, n2, n3⟩ := step
    rw [e]
    exact ih (i + 1) s1 (by omega) n1 n2 n3
/-! ### tables -/
section
variable {α : Type}
end
end My

/-! the law: error classes -/
namespace My
open PySem L2 Sim PyProof.Rows
section
variable {one two : Int} {n0 n1 : Str} {a0 a1 : Addr}
def dueK (one two : Int) (n0 n1 : Str) (a0 a1 : Addr) : List (List Xv) := [[.int one], [.int one], [.int one, .int two], [.int one, .int two], [.int one, .int two], [.str n0], [.str n0], [.int one], [.str n0], [.adr a0, .adr a1, .str "values"], [], [.txs [n0, n1]], [.str n0], [.int one], [.int one]]
theorem ne_same {xs : List Xv} (h : ∀ x ∈ xs, eqX x x = some true) : neX xs xs = some false := by
  have : eqXs xs xs = some (xs.map fun _ => true) := by
    induction xs with
    | nil => rfl
    | cons x xs ih =>
      show (eqX x x >>= fun b => eqXs xs xs >>= fun bs => some (b :: bs)) = _
      rw [h x (List.mem_cons_self ..), ih fun y hy => h y (List.mem_cons_of_mem _ hy)]
      rfl
  unfold neX
  rw [if_neg (fun z => z rfl), this]
  show some (!(xs.map fun _ => true).all id) = _
  have : (xs.map fun _ => true).all id = true := by simp
  rw [this]
  rfl
theorem eq_int (a : Int) : eqX (.int a) (.int a) = some true := by simp [eqX]
theorem eq_str (a : Str) : eqX (.str a) (.str a) = some true := by simp [eqX]
theorem eq_txs (a : List Str) : eqX (.txs a) (.txs a) = some true := by simp [eqX]
theorem eq_adr (a : Addr) : eqX (.adr a) (.adr a) = some true := by simp [eqX]
theorem ne_due {i : Nat} (h : i < 15) : ∃ xs, atI (dueK one two n0 n1 a0 a1) (i : Int) = some xs ∧ m__law_error_fields (i : Int) one two [n0, n1] [a0, a1] = some (some xs) ∧ neX xs xs = some false := by
  match i, h with
  | 0, _ => exact ⟨_, rfl, rfl, ne_same (by simp [eq_int])⟩
  | 1, _ => exact ⟨_, rfl, rfl, ne_same (by simp [eq_int])⟩
  | 2, _ => exact ⟨_, rfl, rfl, ne_same (by simp [eq_int])⟩
  | 3, _ => exact ⟨_, rfl, rfl, ne_same (by simp [eq_int])⟩
  | 4, _ => exact ⟨_, rfl, rfl, ne_same (by simp [eq_int])⟩
  | 5, _ => exact ⟨_, rfl, rfl, ne_same (by simp [eq_str])⟩
  | 6, _ => exact ⟨_, rfl, rfl, ne_same (by simp [eq_str])⟩
  | 7, _ => exact ⟨_, rfl, rfl, ne_same (by simp [eq_int])⟩
  | 8, _ => exact ⟨_, rfl, rfl, ne_same (by simp [eq_str])⟩
  | 9, _ => exact ⟨_, rfl, rfl, ne_same (by simp [eq_adr, eq_str])⟩
  | 10, _ => exact ⟨_, rfl, rfl, ne_same (by simp)⟩
  | 11, _ => exact ⟨_, rfl, rfl, ne_same (by simp [eq_txs])⟩
  | 12, _ => exact ⟨_, rfl, rfl, ne_same (by simp [eq_str])⟩
  | 13, _ => exact ⟨_, rfl, rfl, ne_same (by simp [eq_int])⟩
  | 14, _ => exact ⟨_, rfl, rfl, ne_same (by simp [eq_int])⟩
def kindsK (i : Nat) : List Bool := ((List.range 15).map fun k => ((k : Nat) : Int) == (i : Int)) ++ [true]
theorem kinds_eq {i : Nat} (h : i < 15) : m__law_error_kinds (i : Int) one two [n0, n1] [a0, a1] = some (kindsK i) := by
  match i, h with
  | 0, _ => rfl
  | 1, _ => rfl
  | 2, _ => rfl
  | 3, _ => rfl
  | 4, _ => rfl
  | 5, _ => rfl
  | 6, _ => rfl
  | 7, _ => rfl
  | 8, _ => rfl
  | 9, _ => rfl
  | 10, _ => rfl
  | 11, _ => rfl
  | 12, _ => rfl
  | 13, _ => rfl
  | 14, _ => rfl
theorem turn_eq {p : List Int} {i : Nat} (h : i < 15) : m_law_b1 one two ([n0, n1], p) [a0, a1] (dueK one two n0 n1 a0 a1) (i : Int) () = some (.nx ()) := by
  obtain ⟨xs, e1, e2, e3⟩ := ne_due (one := one) (two := two) (n0 := n0) (n1 := n1) (a0 := a0) (a1 := a1) h
  unfold m_law_b1
  rw [e2, e1, kinds_eq h]
  simp only [Option.bind_eq_bind, bs]
  rw [e3]
  simp only [bs, cfa]
  rw [show (rngM 0 (15 : Int)) = some (tab 15 fun i => (i : Int)) from rngM0 (n := 15) (by decide)]
  simp only [bs]
  rw [mapS_map (g := fun x : Int => x == (i : Int)) (by rw [tab_len]; decide) (fun _ _ => rfl)]
  simp only [bs]
  have : catM ((tab 15 fun i => (i : Int)).map fun x : Int => x == (i : Int)) [true] = some (kindsK i) := by
    unfold catM
    rw [decide_eq_true (by rw [List.length_map, tab_len]; decide)]
    show some (_ ++ [true]) = some (_ ++ [true])
    unfold tab
    rw [List.map_map]
    rfl
  rw [this]
  simp only [bs, decide_true, Bool.not_true, cfa]
theorem mul_ok {v : Nat} {z : Int} (hv : v < 100) (hz : z ∈ [(1 : Int), 100000000, 1000000000000000]) : ∃ r, mulM (v : Int) z = some r := by
  unfold mulM
  exact ⟨_, if_pos (.inl ⟨by omega, by omega⟩)⟩
theorem law_true (sc : List Int) : m_law sc = some true := by
  obtain ⟨pot, e⟩ := pot_eq sc
  unfold m_law
  rw [e]
  simp only [Option.bind_eq_bind, bs]
  have hp8 : powM (10 : Int) (8 : Int) = some 100000000 := by decide
  have hp15 : powM (10 : Int) (15 : Int) = some 1000000000000000 := by decide
  rw [hp8, hp15]
  simp only [bs]
  obtain ⟨v1, p1, e, hv1⟩ := draw_lit pot 100 (by decide) (z := 100) rfl
  rw [e]
  simp only [bs]
  obtain ⟨k1, p2, e, hk1⟩ := draw_lit p1 3 (by decide) (z := 3) rfl
  rw [e]
  simp only [bs]
  rw [atI_nat (xs := [(1 : Int), 100000000, 1000000000000000]) (i := k1) hk1]
  simp only [bs]
  obtain ⟨one, e⟩ := mul_ok hv1 (List.getElem_mem (l := [(1 : Int), 100000000, 1000000000000000]) hk1)
  rw [e]
  simp only [bs]
  obtain ⟨v2, p3, e, hv2⟩ := draw_lit p2 100 (by decide) (z := 100) rfl
  rw [e]
  simp only [bs]
  obtain ⟨k2, p4, e, hk2⟩ := draw_lit p3 3 (by decide) (z := 3) rfl
  rw [e]
  simp only [bs]
  rw [atI_nat (xs := [(1 : Int), 100000000, 1000000000000000]) (i := k2) hk2]
  simp only [bs]
  obtain ⟨two, e⟩ := mul_ok hv2 (List.getElem_mem (l := [(1 : Int), 100000000, 1000000000000000]) hk2)
  rw [e]
  simp only [bs]
  obtain ⟨ns, p5, e, nd, hs, hpr⟩ := names_eqL p4 (many := 2) (by decide)
  have e : m__law_names p4 2 = some (ns, p5) := e
  rw [e]
  simp only [bs]
  match ns, hs with
  | [n0, n1], _ =>
  have r1 : m_Record___init__ n0 [] one = some ⟨n0, [], one⟩ := rfl
  have r2 : m_Record___init__ n1 [(n0, two)] one = some ⟨n1, [(n0, two)], one⟩ := rfl
  rw [show atI [n0, n1] (0 : Int) = some n0 from rfl, show atI [n0, n1] (1 : Int) = some n1 from rfl]
  simp only [bs]
  rw [r1, r2]
  simp only [bs]
  refine allA_of fun as hl => ?_
  match as, hl with
  | [a0, a1], _ =>
  rw [show atI [a0, a1] (0 : Int) = some a0 from rfl, show atI [a0, a1] (1 : Int) = some a1 from rfl]
  simp only [bs]
  rw [show catM [[Xv.int one], [Xv.int one], [Xv.int one, Xv.int two], [Xv.int one, Xv.int two], [Xv.int one, Xv.int two], [Xv.str n0], [Xv.str n0], [Xv.int one], [Xv.str n0]] [[Xv.adr a0, Xv.adr a1, Xv.str ("values" : Str)], [], [Xv.txs [n0, n1]], [Xv.str n0], [Xv.int one], [Xv.int one]] = some (dueK one two n0 n1 a0 a1) from rfl]
  simp only [bs]
  rw [show (rngM 0 (15 : Int)) = some (tab 15 fun i => (i : Int)) from rngM0 (n := 15) (by decide)]
  simp only [bs]
  rw [forL_nxT fun i hi => turn_eq hi]
  rfl
end
end My

set_option maxHeartbeats 0
namespace My
open PySem PySem.Spec PyProof.Rows L2 Sim
theorem ob_eq (s : PySem.W.SharedT) : ob s = hk.obs s.abs := obsXG_eq (HandSHeadRun.getT_eq s)
section
open PySem.W PySem.Calls HandSHeadRun
end
theorem glo_law (K : PySem.W.Frag) (mg : Str → Option Value) (T : Tx K mg) : mg "law" = some (.ref (He.ga K "law")) := T.glo 24 rfl
end My
open PySem PySem.W PySem.Calls PyProof.Rows
theorem PySem.Challenge.cw_askedpoints_k18_error_classes_holds : PySem.Challenge.rw_askedpoints_k18_error_classes.Holds := by
  w_on; o_law
  refine HandSHeadRun.head_any (r := OpenLaw.row PySem.Challenge.rw_askedpoints_k18_error_classes) (q := view (OpenLaw.row PySem.Challenge.rw_askedpoints_k18_error_classes).prog [27]) (H := My.hk) (ob := My.ob) (M := 9000) (loose := My.loose) (d := HandSHeadRun.topDef (OpenLaw.row PySem.Challenge.rw_askedpoints_k18_error_classes).prog 27) (kwd := []) My.ob_eq
    (by kernel_rfl) (fun s => by kernel_rfl) My.run (by kernel_rfl) (by kernel_rfl) (by kernel_rfl) (by rfl) (by first | assumption | decide +kernel) (by decide +kernel) ⟨rfl, rfl, rfl, rfl, rfl, by decide +kernel⟩ ?hw ?hc
  case hw => w_witness2
  case hc =>
    refine L2.walk_ofE (l := PySem.Challenge.rw_askedpoints_k18_error_classes) (n := 63) (k := 5) (x := "_law_script") (CX := L2.CX0) rfl (by decide) (by kernel_rfl) ⟨rfl, by decide, by decide⟩ ?F (fun _ _ _ _ z => z)
    intro w mg fa h Y G hmg0
    obtain ⟨K, KX, c⟩ := Y
    have T : My.Tx K mg := Sim.TxX.mk' KX G c
    have e : (HandSHeadRun.topDef (OpenLaw.row PySem.Challenge.rw_askedpoints_k18_error_classes).prog 27).name = ("law" : PySem.Str) := by kernel_rfl
    rw [e, My.glo_law K mg T] at hmg0
    cases hmg0
    obtain ⟨fd, F, hF⟩ := My.ok_law (w := w) T
    exact ⟨K, fd, _, KX, fun s u => F.bindsA (ps := ["_law_script"]) (fun kV doc pm an cdv ct us hl => by (cases us with | nil => cases hl | cons a t => cases t with | nil => rfl | cons b t => cases hl)) s [u] rfl, fun H a ns hl _ hS => ⟨H, (ns, ()), true, Evl.Ex.refl _, ⟨.ref a, [], rfl, ⟨a, rfl, hS⟩, rfl⟩, My.law_true ns, fun v H2 G2 u hv => hv⟩, fun base _ _ => hF base⟩
