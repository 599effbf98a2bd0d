import PyProof.Rows.All
import Wide.All
import OpenK.AllK
import Wide.FinOn
import HandS.ForMost
import HandS.Evl
import HandS.SortInts
import HandS.Wide
import HandS.More
import HandS.IsInst
import HandS.Defaults
import HandS.HeadHook1
import HandS.HeadHook2
import KE.DataEq
import HandS.HeadHook3
import HandS.Exc
import HandS.Conv
import KE.KSuper
import KE.KExcSuper
import HandS.ExcInit
import HandS.Nested
import KE.KExcInit
import HandS.ExcField
import HandS.ExcIs
import HandS.ExcOwn
import HandS.TryMany
import HandS.CallSlots
import HandS.Property
import HandS.Style
import HandS.ClsMeth
import HandS.IterNext
import HandS.IterVal
import HandS.OwnIter
import KE.KOwnIter
import HandS.Slots
import HandS.SlotsOwn
import HandS.DictComp
import PyProof.StrBlock2
import HandS.Text
import HandS.FStr
import HandS.Zip
import KE.KCallOwn
import HandS.CallLocal
import HandS.Finally
import KE.KLam
import HandS.NestedK
import HandS.Lambda
import KE.KNestM
import HandS.EndTab
import HandS.HeadWalk
import HandS.HeadHook4
import KE.KOpsOwn
import HandS.Iter
import HandS.Walk
import PyProof.EqAt
import KE.KEqDict
import HandS.OwnEq
import PyProof.ListRange
import HandS.RevTup
import HandS.Rev
import KE.KStateDown
import Lean
import HandS.WordsExc
import HandS.Head0
import HandS.Head1
import HandS.Head2
import HandS.HeadEnd
import KE.KxLen
import PySem.Challenge.RW_askedpoints_k16_joined_and_met_sides
set_option Elab.async false
set_option linter.all false
set_option maxRecDepth 100000
section
/-! Sim: what a reading does, told by plain Lean data (mirrors). -/
namespace Sim
open PySem L2 Evl

/-! ### heaps: the data heap G below the heap H -/
structure Up (G H G2 H2 : Hp) : Prop where
  gg : Ex G G2
  gh : Ex G2 H2
  hh : Ex H H2
  nw : ∀ a, H a ≠ none → G a = none → G2 a = none
theorem Up.refl {G H : Hp} (e : Ex G H) : Up G H G H := ⟨Ex.refl _, e, Ex.refl _, fun _ _ h => h⟩
theorem Up.trans {G H G1 H1 G2 H2 : Hp} (a : Up G H G1 H1) (b : Up G1 H1 G2 H2) : Up G H G2 H2 :=
  ⟨a.gg.trans b.gg, b.gh, a.hh.trans b.hh, fun x h1 h2 => b.nw x (fun z => h1 (by
    cases q : H x with
    | none => rfl
    | some o => rw [a.hh x o q] at z; cases z)) (a.nw x h1 h2)⟩
/-- nothing new is data -/
theorem Up.same {G H H2 : Hp} (e : Ex G H) (h : Ex H H2) : Up G H G H2 := ⟨Ex.refl _, e.trans h, h, fun _ _ q => q⟩
theorem Up.lift {G Gw H G2 H2 : Hp} (u : Up G H G2 H2) (e1 : Ex G Gw) (e2 : Ex Gw H) : ∃ G3, Up Gw H G3 H2 ∧ Ex G2 G3 := by
  refine ⟨fun a => match H a with | none => G2 a | some _ => Gw a, ⟨fun a o h => ?_, fun a o h => ?_, u.hh, fun a h1 h2 => ?_⟩, fun a o h => ?_⟩
  · show (match H a with | none => G2 a | some _ => Gw a) = some o
    rw [e2 a o h]; exact h
  · have h' : (match H a with | none => G2 a | some _ => Gw a) = some o := h
    cases q : H a with
    | none => rw [q] at h'; exact u.gh a o h'
    | some o' =>
      rw [q] at h'
      exact u.hh a o (e2 a o h')
  · show (match H a with | none => G2 a | some _ => Gw a) = none
    cases q : H a with
    | none => exact absurd q h1
    | some o' => exact h2
  · show (match H a with | none => G2 a | some _ => Gw a) = some o
    cases q : H a with
    | none => exact h
    | some o' =>
      show Gw a = some o
      cases r : G a with
      | none => rw [u.nw a (by rw [q]; simp) r] at h; cases h
      | some o2 =>
        have := u.gg a o2 r
        rw [h] at this
        cases this
        exact e1 a _ r
/-! ### data as it stands in a heap -/
structure Rep (α : Type) where
  r : Hp → V → α → Prop
  mono : ∀ {H H' : Hp} {v : V} {x : α}, Ex H H' → r H v x → r H' v x
/-- told by the value alone -/
def Rep.Sc {α : Type} (R : Rep α) : Prop := ∀ {H H' : Hp} {v : V} {x : α}, R.r H v x → R.r H' v x

def rI : Rep Int := ⟨fun _ v x => v = .int x, fun _ h => h⟩
def rB : Rep Bool := ⟨fun _ v x => v = .bl x, fun _ h => h⟩
def rS : Rep Str := ⟨fun _ v x => v = .str x, fun _ h => h⟩
def rL {α : Type} (R : Rep α) : Rep (List α) := ⟨fun H v xs => ∃ a vs, v = .ref a ∧ H a = some (.lst vs) ∧ Paired (R.r H) vs xs,
  fun e ⟨a, vs, h1, h2, h3⟩ => ⟨a, vs, h1, e a _ h2, Paired.mapP h3 fun _ _ => R.mono e⟩⟩
def rO {α : Type} (R : Rep α) : Rep (Option α) := ⟨fun H v o => match o with | none => v = .non | some x => R.r H v x,
  fun {H H' v o} e h => by cases o with | none => exact h | some x => exact R.mono e h⟩

/-! ### mirrors that may lack an answer -/
/-! ### expressions -/
/-- te reads as m: the data heap is G, W is known to stand as well (cells that are only read) -/
def E {α : Type} (te : TE) (σ : L2.St) (G W : Hp) (R : Rep α) (m : Option α) : Prop :=
  ∀ x, m = some x → ∀ H, Ex G H → Ex W H → ∀ Q : VK, (∀ v H2 G2, Up G H G2 H2 → R.r G2 v x → Q v H2) → te σ H Q
def ET (tt : TT) (σ : L2.St) (W : Hp) (m : Option Bool) : Prop :=
  ∀ b, m = some b → ∀ H, Ex W H → ∀ Q : Bool → Hp → Prop, (∀ H2, Ex H H2 → Q b H2) → tt σ H Q
structure AR (ι : Type) where
  r : Hp → List V → ι → Prop
  mono : ∀ {H H' : Hp} {v : List V} {x : ι}, Ex H H' → r H v x → r H' v x
def EA {ι : Type} (ta : TA) (σ : L2.St) (G W : Hp) (A : AR ι) (m : Option ι) : Prop :=
  ∀ x, m = some x → ∀ H, Ex G H → Ex W H → ∀ Q : List V → Hp → Prop, (∀ vs H2 G2, Up G H G2 H2 → A.r G2 vs x → Q vs H2) → ta σ H Q
section
variable {K : PySem.W.Frag} {σ : L2.St} {G H G' W W' : Hp} {ta tb te : TE} {t u : TT} {α β γ ι : Type} {R : Rep α} {S : Rep β} {T : Rep γ} {A : AR ι}
theorem E.mono {m : Option α} (e : Ex G G') (e' : Ex W W') (h : E te σ G W R m) : E te σ G' W' R m := fun x hx H e1 e2 Q q =>
  h x hx H (e.trans e1) (e'.trans e2) Q fun v H2 G2 up r => by
    obtain ⟨G3, u3, e3⟩ := up.lift e e1
    exact q v H2 G3 u3 (R.mono e3 r)
theorem ET.mono {m : Option Bool} (e : Ex W W') (h : ET t σ W m) : ET t σ W' m := fun x hx H e1 Q q => h x hx H (e.trans e1) Q q
theorem EA.mono {ta : TA} {m : Option ι} (e : Ex G G') (e' : Ex W W') (h : EA ta σ G W A m) : EA ta σ G' W' A m := fun x hx H e1 e2 Q q =>
  h x hx H (e.trans e1) (e'.trans e2) Q fun v H2 G2 up r => by
    obtain ⟨G3, u3, e3⟩ := up.lift e e1
    exact q v H2 G3 u3 (A.mono e3 r)
/-- a value that hangs on no heap -/
theorem E.s {m : Option α} (sc : R.Sc) (h : E te σ W W R m) : E te σ G W R m := fun x hx H e1 e2 Q q =>
  h x hx H e2 e2 Q fun v H2 G2 up r => q v H2 G (Up.same e1 up.hh) (sc r)
end
end Sim

namespace Sim
open PySem L2 Evl

/-! ### cells: objects that change -/
structure CP where
  p : Hp → HO → Prop
  mono : ∀ {G G' : Hp} {o : HO}, Ex G G' → p G o → p G' o
def cL {α : Type} (R : Rep α) (xs : List α) : CP := ⟨fun G o => ∃ vs, o = .lst vs ∧ Paired (R.r G) vs xs, fun e ⟨vs, h1, h2⟩ => ⟨vs, h1, Paired.mapP h2 fun _ _ => R.mono e⟩⟩
abbrev Cs := List (Addr × CP)
structure Wd (G H : Hp) (cs : Cs) : Prop where
  ex : Ex G H
  at_ : ∀ c ∈ cs, G c.1 = none ∧ ∃ o, H c.1 = some o ∧ c.2.p G o
  nd : (cs.map (·.1)).Nodup
theorem Wd.nil {G H : Hp} (e : Ex G H) : Wd G H [] := ⟨e, fun _ h => absurd h List.not_mem_nil, List.nodup_nil⟩
section
variable {G H G2 H2 : Hp} {cs : Cs} {l : Addr} {cp cp' : CP}
theorem Wd.head (w : Wd G H ((l, cp) :: cs)) : G l = none ∧ ∃ o, H l = some o ∧ cp.p G o := w.at_ _ (List.mem_cons_self ..)
theorem Wd.up (w : Wd G H cs) (u : Up G H G2 H2) : Wd G2 H2 cs := ⟨u.gh, fun c h => by
  obtain ⟨h1, o, h2, h3⟩ := w.at_ c h
  exact ⟨u.nw _ (by rw [h2]; simp) h1, o, u.hh _ _ h2, c.2.mono u.gg h3⟩, w.nd⟩
theorem Wd.sc (w : Wd G H cs) (u : Ex H H2) : Wd G H2 cs := w.up (Up.same w.ex u)
/-- a new cell is laid -/
theorem Wd.new (w : Wd G H cs) {o : HO} (n : H l = none) (h : cp.p G o) : Wd G (upd H l o) ((l, cp) :: cs) := by
  refine ⟨w.ex.mut (fresh_back w.ex n), fun c hc => ?_, ?_⟩
  · rcases List.mem_cons.mp hc with hc | hc
    · subst hc; exact ⟨fresh_back w.ex n, o, upd_same, h⟩
    · obtain ⟨h1, o', h2, h3⟩ := w.at_ c hc
      exact ⟨h1, o', by rw [upd_ne (ne_of_none h2 n)]; exact h2, h3⟩
  · show (l :: cs.map (·.1)).Nodup
    refine List.nodup_cons.mpr ⟨fun hm => ?_, w.nd⟩
    obtain ⟨c, hc, e⟩ := List.mem_map.mp hm
    obtain ⟨_, o', h2, _⟩ := w.at_ c hc
    exact ne_of_none h2 n e
end
/-! ### promises -/
/-- cells change -/
structure Fr (G H G2 H2 : Hp) (ls : List Addr) : Prop where
  gg : Ex G G2
  fr : ∀ a o, H a = some o → a ∉ ls → H2 a = some o
  nw : ∀ a, H a ≠ none → G a = none → G2 a = none
  st : ∀ a, H a ≠ none → H2 a ≠ none
theorem Fr.refl {G H : Hp} {ls : List Addr} : Fr G H G H ls := ⟨Ex.refl _, fun _ _ h _ => h, fun _ _ h => h, fun _ h => h⟩
theorem some_ne {H H2 : Hp} (e : Ex H H2) {a : Addr} (h : H a ≠ none) : H2 a ≠ none := by
  cases q : H a with
  | none => exact absurd q h
  | some o => rw [e a o q]; simp
theorem Up.fr {G H G2 H2 : Hp} {ls : List Addr} (u : Up G H G2 H2) : Fr G H G2 H2 ls := ⟨u.gg, fun a o h _ => u.hh a o h, u.nw, fun a h => some_ne u.hh h⟩
theorem Fr.trans {G H G1 H1 G2 H2 : Hp} {ls : List Addr} (a : Fr G H G1 H1 ls) (b : Fr G1 H1 G2 H2 ls) : Fr G H G2 H2 ls :=
  ⟨a.gg.trans b.gg, fun x o h1 h2 => b.fr x o (a.fr x o h1 h2) h2, fun x h1 h2 => b.nw x (a.st x h1) (a.nw x h1 h2), fun x h => b.st x (a.st x h)⟩
end Sim

namespace Sim
open PySem L2 Evl
section
variable {K : PySem.W.Frag} {σ : L2.St} {G H G' W W' : Hp} {ta tb te tc : TE} {t u : TT} {α β γ ι κ : Type} {R : Rep α} {S : Rep β} {T : Rep γ} {A : AR ι}

/-! ### mirrors of operations that may lack an answer -/
/-! ### and, or, not, if -/
/-! ### arguments, calls -/
/-- an expression that makes a new list -/
def EL (te : TE) (σ : L2.St) (G W : Hp) (R : Rep α) (m : Option (List α)) : Prop :=
  ∀ xs, m = some xs → ∀ H, Ex G H → Ex W H → ∀ Q : VK, (∀ p H2 G2, H p = none → Up G H G2 H2 → Wd G2 H2 [(p, cL R xs)] → Q (.ref p) H2) → te σ H Q
theorem Up.frz {G H G1 H1 G2 : Hp} {p : Addr} (hp : H p = none) (u : Up G H G1 H1) (e : Ex G1 G2) (e2 : Ex G2 H1) (n : ∀ a, a ≠ p → G1 a = none → G2 a = none) : Up G H G2 H1 :=
  ⟨u.gg.trans e, e2, u.hh, fun a h1 h2 => n a (fun z => by subst z; exact h1 hp) (u.nw a h1 h2)⟩
theorem frz1 {G H G1 H1 : Hp} {p : Addr} {xs : List α} (hp : H p = none) (u : Up G H G1 H1) (w : Wd G1 H1 [(p, cL R xs)]) : ∃ G2, Up G H G2 H1 ∧ (rL R).r G2 (.ref p) xs := by
  obtain ⟨h1, o, h2, vs, rfl, h3⟩ := w.head
  refine ⟨upd G1 p (.lst vs), u.frz hp (Ex.new h1) (fun a u' e => ?_) (fun a ne h => by rw [upd_ne ne]; exact h), p, vs, rfl, upd_same, Paired.mapP h3 fun _ _ => R.mono (Ex.new h1)⟩
  by_cases q : a = p
  · subst q; rw [upd_same] at e; cases e; exact h2
  · rw [upd_ne q] at e; exact w.ex a u' e
theorem EL.e {m : Option (List α)} (h : EL te σ G W R m) : E te σ G W (rL R) m := fun x hx H e e' Q q => h x hx H e e' Q fun p H2 G2 hp u w => by
  obtain ⟨G3, u3, r3⟩ := frz1 hp u w
  exact q _ H2 G3 u3 r3
theorem Wd.lift {Gw G2 : Hp} {H : Hp} {cs : Cs} (w : Wd G2 H cs) (e : Ex G2 Gw) (e2 : Ex Gw H) (n : ∀ c ∈ cs, Gw c.1 = none) : Wd Gw H cs := ⟨e2, fun c h => by
  obtain ⟨h1, o, h2, h3⟩ := w.at_ c h
  exact ⟨n c h, o, h2, c.2.mono e h3⟩, w.nd⟩
theorem Up.lift' {G Gw H G2 H2 : Hp} (u : Up G H G2 H2) (e1 : Ex G Gw) (e2 : Ex Gw H) : ∃ G3, Up Gw H G3 H2 ∧ Ex G2 G3 ∧ ∀ a, H a = none → G2 a = none → G3 a = none := by
  refine ⟨fun a => match H a with | none => G2 a | some _ => Gw a, ⟨fun a o h => ?_, fun a o h => ?_, u.hh, fun a h1 h2 => ?_⟩, fun a o h => ?_, fun a h1 h2 => ?_⟩
  · show (match H a with | none => G2 a | some _ => Gw a) = some o
    rw [e2 a o h]; exact h
  · have h' : (match H a with | none => G2 a | some _ => Gw a) = some o := h
    cases q : H a with
    | none => rw [q] at h'; exact u.gh a o h'
    | some o' =>
      rw [q] at h'
      exact u.hh a o (e2 a o h')
  · show (match H a with | none => G2 a | some _ => Gw a) = none
    cases q : H a with
    | none => exact absurd q h1
    | some o' => exact h2
  · show (match H a with | none => G2 a | some _ => Gw a) = some o
    cases q : H a with
    | none => exact h
    | some o' =>
      show Gw a = some o
      cases r : G a with
      | none => rw [u.nw a (by rw [q]; simp) r] at h; cases h
      | some o2 =>
        have := u.gg a o2 r
        rw [h] at this
        cases this
        exact e1 a _ r
  · show (match H a with | none => G2 a | some _ => Gw a) = none
    rw [h1]; exact h2
theorem EL.mono {m : Option (List α)} (e : Ex G G') (e' : Ex W W') (h : EL te σ G W R m) : EL te σ G' W' R m := fun x hx H e1 e2 Q q => h x hx H (e.trans e1) (e'.trans e2) Q fun p H2 G2 hp u w => by
  obtain ⟨G3, u3, e3, n3⟩ := u.lift' e e1
  exact q p H2 G3 hp u3 (w.lift e3 u3.gh fun c hc => by
    cases List.mem_singleton.mp hc
    exact n3 p hp w.head.1)
/-! ### built-ins -/
/-! ### displays -/
end
end Sim

namespace Sim
open PySem L2 Evl

/-! ### mirrors of loops -/
section
variable {α σ ρ : Type}
end
/-! ### the world of a def -/
structure Wo (G0 H0 : Hp) (ls : List Addr) (G H : Hp) (cs : Cs) : Prop where
  w : Wd G H cs
  f : Fr G0 H0 G H ls
  lo : ∀ c ∈ cs, c.1 ∈ ls ∨ H0 c.1 = none
section
variable {K : PySem.W.Frag} {σ : L2.St} {G0 H0 G H G2 H2 : Hp} {ls : List Addr} {cs : Cs} {l : Addr} {cp cp' : CP} {ta tb te tc : TE} {t u : TT} {α β γ ι κ : Type} {R : Rep α} {S : Rep β} {T : Rep γ} {A : AR ι}
theorem Wo.ex (w : Wo G0 H0 ls G H cs) : Ex G H := w.w.ex
theorem Wo.up (w : Wo G0 H0 ls G H cs) (u : Up G H G2 H2) : Wo G0 H0 ls G2 H2 cs := ⟨w.w.up u, w.f.trans u.fr, w.lo⟩
theorem Wo.sc (w : Wo G0 H0 ls G H cs) (u : Ex H H2) : Wo G0 H0 ls G H2 cs := w.up (Up.same w.ex u)
/-- the i-th cell -/
theorem Wd.getAt {i : Nat} (w : Wd G H cs) (h : cs[i]? = some (l, cp)) : G l = none ∧ ∃ o, H l = some o ∧ cp.p G o := w.at_ _ (List.mem_of_getElem? h)
theorem nodup_ix {as : List Addr} (nd : as.Nodup) {i j : Nat} {x : Addr} (h1 : as[i]? = some x) (h2 : as[j]? = some x) : i = j := by
  obtain ⟨a1, a2⟩ := List.getElem?_eq_some_iff.mp h1
  obtain ⟨b1, b2⟩ := List.getElem?_eq_some_iff.mp h2
  have p := List.pairwise_iff_getElem.mp nd
  rcases Nat.lt_trichotomy i j with q | q | q
  · exact absurd (a2.trans b2.symm) (p i j a1 b1 q)
  · exact q
  · exact absurd (b2.trans a2.symm) (p j i b1 a1 q)
theorem Fr.put (f : Fr G0 H0 G H ls) {o : HO} (h : l ∈ ls ∨ H0 l = none) : Fr G0 H0 G (upd H l o) ls := ⟨f.gg, fun a u h1 h2 => by
  have ne : a ≠ l := fun z => by
    subst z
    rcases h with h | h
    · exact h2 h
    · rw [h] at h1; cases h1
  rw [upd_ne ne]; exact f.fr a u h1 h2, f.nw, fun a h1 => by
  by_cases q : a = l
  · subst q; rw [upd_same]; simp
  · rw [upd_ne q]; exact f.st a h1⟩
theorem Wo.new (w : Wo G0 H0 ls G H cs) {o : HO} (n : H l = none) (h : cp.p G o) : Wo G0 H0 ls G (upd H l o) ((l, cp) :: cs) := by
  have n0 : H0 l = none := by
    cases q : H0 l with
    | none => rfl
    | some o => exact absurd n (w.f.st l (by rw [q]; simp))
  exact ⟨w.w.new n h, w.f.put (.inr n0), fun c hc => by
    rcases List.mem_cons.mp hc with hc | hc
    · subst hc; exact .inr n0
    · exact w.lo c hc⟩
end
end Sim

namespace Sim
open PySem L2 Evl
section
variable {K : PySem.W.Frag} {σ : L2.St} {G0 H0 G H G2 H2 W : Hp} {ls : List Addr} {cs : Cs} {l : Addr} {cp cp' : CP} {ta tb te tc : TE} {t u : TT} {α β γ ι κ : Type} {R : Rep α} {S : Rep β} {T : Rep γ} {A : AR ι} {D : Ends} {tu tv tz : TS} {g : TG}

/-! ### expressions in the world -/
/-! ### a def that changes one cell -/
/-! ### readings opened -/
/-! ### statements -/
/-! ### list cells, by methods -/
/-! ### loops -/
end
end Sim

namespace Sim
open PySem L2 Evl
section
variable {α β : Type}
end
section
variable {K : PySem.W.Frag} {σ : L2.St} {G H W : Hp} {te tl : TE} {tt : TT} {α β γ : Type} {R : Rep α} {S : Rep β} {T : Rep γ}
end
end Sim

namespace Sim
open PySem L2 Evl
section
variable {K : PySem.W.Frag} {σ : L2.St} {G0 H0 G H G2 H2 W : Hp} {ls : List Addr} {cs : Cs} {l : Addr} {cp cp' : CP} {ta tb te tc : TE} {t u : TT} {α β γ ι κ : Type} {R : Rep α} {S : Rep β} {T : Rep γ} {A : AR ι} {D : Ends} {tu tv tz : TS} {g : TG}
theorem E.is {m : Option α} {x : α} (h : E te σ G W R m) (hm : m = some x) : E te σ G W R (some x) := by rw [← hm]; exact h
theorem ET.is {m : Option Bool} {x : Bool} (h : ET t σ W m) (hm : m = some x) : ET t σ W (some x) := by rw [← hm]; exact h
theorem EL.is {m : Option (List α)} {x : List α} (h : EL te σ G W R m) (hm : m = some x) : EL te σ G W R (some x) := by rw [← hm]; exact h
/-- items of one kind -/
def EAL (n : Nat) (ta : TA) (σ : L2.St) (G W : Hp) (R : Rep α) (m : Option (List α)) : Prop :=
  ∀ xs, m = some xs → xs.length = n ∧ ∀ H, Ex G H → Ex W H → ∀ Q : List V → Hp → Prop, (∀ vs H2 G2, Up G H G2 H2 → Paired (R.r G2) vs xs → Q vs H2) → ta σ H Q
theorem EAL.mono {n : Nat} {G' W' : Hp} {ta : TA} {m : Option (List α)} (e : Ex G G') (e' : Ex W W') (h : EAL n ta σ G W R m) : EAL n ta σ G' W' R m := fun x hx => ⟨(h x hx).1, fun H e1 e2 Q q =>
  (h x hx).2 H (e.trans e1) (e'.trans e2) Q fun v H2 G2 up r => by
    obtain ⟨G3, u3, e3⟩ := up.lift e e1
    exact q v H2 G3 u3 (Paired.mapP r fun _ _ => R.mono e3)⟩
/-! ### cuts, tests opened -/
end
end Sim

namespace Sim
open PySem L2 Evl
section
variable {K : PySem.W.Frag} {σ : L2.St} {G0 H0 G H G2 H2 W : Hp} {ls : List Addr} {cs : Cs} {l : Addr} {cp cp' : CP} {ta tb te tc : TE} {t u : TT} {α β γ ι κ : Type} {R : Rep α} {S : Rep β} {T : Rep γ} {A : AR ι} {D : Ends} {tu tv tz : TS} {g : TG}
theorem cl_sc {xs : List α} (h : R.Sc) {o : HO} (q : (cL R xs).p G o) : (cL R xs).p G2 o := by
  obtain ⟨vs, e, p⟩ := q
  exact ⟨vs, e, Paired.mapP p fun _ _ r => h r⟩
theorem EL.s {m : Option (List α)} (sc : R.Sc) (h : EL te σ W W R m) : EL te σ G W R m := fun xs hx H e e' Q q => h xs hx H e' e' Q fun p H2 G2 hp u w => by
  obtain ⟨h1, o, h2, h3⟩ := w.head
  exact q p H2 G hp (Up.same e u.hh) ⟨e.trans u.hh, fun c hc => by
    rw [List.mem_singleton.mp hc]
    exact ⟨fresh_back e hp, o, h2, cl_sc sc h3⟩, List.nodup_cons.mpr ⟨List.not_mem_nil, List.nodup_nil⟩⟩
end
/-! ### the text's facts -/
structure Tx (fa : List He.Fa) (fn : List He.DefD) (K : PySem.W.Frag) (mg : Str → Option Value) : Prop where
  ex : ∃ h : Heap, K.In h ∧ h.Ns mainGlobals mg
  c : He.SaysD fa fn K
section
variable {fa : List He.Fa} {fn : List He.DefD} {K : PySem.W.Frag} {mg : Str → Option Value} {P : Program} {w : World} {base : Heap}
theorem Tx.glo (T : Tx fa fn K mg) (i : Nat) {x : Str} (h : fa[i]? = some (.glo x)) : mg x = some (.ref (He.ga K x)) := by
  obtain ⟨h', X, G⟩ := T.ex
  exact He.glo_ok X G (T.c.fact i h)
theorem Tx.free (T : Tx fa fn K mg) (i : Nat) {x : Str} (h : fa[i]? = some (.free x)) : mg x = none := by
  obtain ⟨h', X, G⟩ := T.ex
  exact He.free_ok X G (T.c.fact i h)
theorem Tx.cls (T : Tx fa fn K mg) (i : Nat) {x : Str} (h : fa[i]? = some (.cls x)) : Cls K (He.ga K x) := He.cls_ok (T.c.fact i h)
theorem Tx.noat (T : Tx fa fn K mg) (i : Nat) {x f : Str} (h : fa[i]? = some (.noat x f)) : NoAttr K (He.ga K x) f := He.noat_ok (T.c.fact i h)
theorem Tx.meth (T : Tx fa fn K mg) (i : Nat) {x m : Str} (h : fa[i]? = some (.meth x m)) : Meth K (He.ga K x) m (He.ma K (He.ga K x) m) := He.meth_ok (T.c.fact i h)
theorem Tx.mkr (T : Tx fa fn K mg) (i : Nat) {x : Str} (h : fa[i]? = some (.mkr x)) : Mk K (He.ga K x) (He.ma K (He.ga K x) "__init__") := He.mkr_ok (T.c.fact i h)
end
end Sim

namespace Sim
open PySem L2 Evl
/-! ### the hook: facts, defs, and further Bools -/
structure TxE (fa : List He.Fa) (fn : List He.DefD) (es : List (PySem.W.Frag → Bool)) (K : PySem.W.Frag) (mg : Str → Option Value) : Prop extends Tx fa fn K mg where
  x : (es.all fun e => e K) = true
/-! ### objects -/
structure Pd where
  p : Hp → V → Prop
  mono : ∀ {H H' : Hp} {v : V}, Ex H H' → p H v → p H' v
def Fl (ns : List Str) (ps : List Pd) (H : Hp) (fs : List (Str × V)) : Prop := fs.map (·.1) = ns ∧ Paired (fun v (q : Pd) => q.p H v) (fs.map (·.2)) ps
theorem Fl.mono {ns : List Str} {ps : List Pd} {H H' : Hp} {fs : List (Str × V)} (e : Ex H H') (h : Fl ns ps H fs) : Fl ns ps H' fs := ⟨h.1, Paired.mapP h.2 fun _ q => q.mono e⟩
def rObj {α : Type} (C : Addr) (ns : List Str) (fl : α → List Pd) : Rep α := ⟨fun H v x => ∃ a dx fs, v = .ref a ∧ H a = some (.ins C dx fs) ∧ Fl ns (fl x) H fs, fun e ⟨a, dx, fs, h1, h2, h3⟩ => ⟨a, dx, fs, h1, e a _ h2, h3.mono e⟩⟩
def cI (C : Addr) (ns : List Str) (ps : List Pd) : CP := ⟨fun G o => ∃ dx fs, o = .ins C dx fs ∧ Fl ns ps G fs, fun e ⟨dx, fs, h1, h2⟩ => ⟨dx, fs, h1, h2.mono e⟩⟩
section
variable {K : PySem.W.Frag} {σ : L2.St} {G0 H0 G H G2 H2 W : Hp} {ls : List Addr} {cs : Cs} {l C : Addr} {cp cp' : CP} {ta tb te tc to : TE} {t u : TT} {α β γ ι κ : Type} {R : Rep α} {S : Rep β} {T : Rep γ} {A : AR ι} {D : Ends} {tu tv tz : TS} {g : TG} {ns : List Str} {fl : α → List Pd}
/-! ### isinstance, the kind known -/
/-! ### == of data -/
end
end Sim

namespace Sim
open PySem L2 Evl
section
variable {K : PySem.W.Frag} {σ : L2.St} {G0 H0 G H G2 H2 W : Hp} {ls : List Addr} {cs : Cs} {l C : Addr} {cp cp' : CP} {ta tb te tc to : TE} {t u : TT} {α β γ ι κ : Type} {R : Rep α} {S : Rep β} {T : Rep γ} {A : AR ι} {D : Ends} {tu tv tz : TS} {g : TG} {ns : List Str} {fl : α → List Pd}
/-! ### a list lent to a def that only reads it -/
/-- at l, its items standing in the data heap, it itself not -/
structure Lent (G W : Hp) (l : Addr) (B : Rep κ) (ys : List κ) : Prop where
  n : G l = none
  at_ : ∃ vs, W l = some (.lst vs) ∧ Paired (B.r G) vs ys
theorem Lent.up {B : Rep κ} {ys : List κ} {G1 H1 H : Hp} (L : Lent G W l B ys) (e' : Ex W H) (u : Up G H G1 H1) : Lent G1 H1 l B ys := by
  obtain ⟨vs, h2, h3⟩ := L.at_
  exact ⟨u.nw _ (by rw [e' _ _ h2]; simp) L.n, vs, u.hh _ _ (e' _ _ h2), Paired.mapP h3 fun _ _ => B.mono u.gg⟩
theorem Lent.ne {B : Rep κ} {ys : List κ} {x : Addr} {ps : List Pd} (L : Lent G H l B ys) (w : Wd G H [(x, cI C ns ps)]) : l ∉ [x] := fun z => by
  obtain ⟨vs, h2, _⟩ := L.at_
  obtain ⟨_, o, k2, dx, fs, rfl, _⟩ := w.head
  rw [List.mem_singleton.mp z, k2] at h2
  cases h2
end
/-! ### a method by its name, with its promise -/
/-! ### data that is compared -/
section
variable {α β : Type} {R : Rep α} {S : Rep β}
end
end Sim
namespace Sim
open PySem L2 Evl
section
variable {K : PySem.W.Frag} {σ : L2.St} {G0 H0 G H G2 H2 W : Hp} {ls : List Addr} {cs : Cs} {l C : Addr} {te : TE} {α β : Type} {R : Rep α} {S : Rep β} {ns : List Str}
end
end Sim

set_option maxHeartbeats 4000000
/-! own exceptions: an __init__ whose first statement is super().__init__(text) -/
namespace Sim
open PySem PySem.Spec PyProof.Rows L2 PySem.W PySem.Calls NdefX
/-- what the written part says of such an __init__ -/
structure SupC (P : Program) (K : Frag) (mg : Str → Option Value) (C f : Addr) (fd : FuncData) (F : NF) (ps : List Str) : Prop where
  lk : ∃ oc od osl kV doc pm an ct, fd = PySem.W.fnX F.name F.qual F.params F.body F.scope F.cl .none kV doc pm an (.ref F.c) ct ∧ K.lookup f = some ⟨oc, od, .func fd, osl⟩
  cd : PySem.W.codeIn K (.ref F.c) F.qual = true
  cl : ∃ cc oc od osl, F.cl = [(("__class__" : Str), cc)] ∧ K.lookup cc = some ⟨oc, od, .cell (some (.ref C)), osl⟩
  par : ∃ ar ps', (F.params.posonlyargs ++ F.params.args).head? = some ar ∧ ps = ar.arg :: ps' ∧ F.scope.names.lookup ar.arg = some .local
  code : ∃ ccl cdd vs ccs file tf, K.lookup F.c = some ⟨ccl, cdd, .fields vs, ccs⟩ ∧ vs[2]? = some (.str file tf) ∧ ((P.main.file : Str) == file) = true
  cls : ∃ cdD, clsIn K C = some cdD
  sub : mroIn K C (.ref C) = some true
  ks : F.scope.names.lookup ("super" : Str) = some .globalImplicit
  kc : F.scope.names.lookup ("__class__" : Str) = some .free
  mg : mg "super" = none
  top : (P.main.scope.names.lookup ("super" : Str)).isSome = false
  opq : nsIn K cStatics "thirdparty.any" = some none
  sup : ks_superIn K C C "__init__" = some (some (.builtin "ValueError.__init__"))
  ve : subIn K (.ref C) (.type "ValueError") = some true
  ex : OexC K C
section
variable {CX : CXT} {P : Program} {w : World} {K : PySem.W.Frag} {mg : Str → Option Value} {base : Heap} {N ps : List Str} {F : NF} {C f : Addr} {fd : FuncData} {k : Nat} {sp : Sp} {t : Str} {rest : List Stmt} {p0 p1 p2 p3 p4 pc : Pos} {j : Nat} {pl : Sem Bool}
end
end Sim

/-! own exceptions: what the top's end says of them -/
namespace Sim
open PySem PySem.Spec PyProof.Rows L2 PySem.W PySem.Calls NdefX
def oexB (K : Frag) (C : Addr) : Bool := (match K.lookup C with
  | some ⟨.type "type", _, .cls cd, sl⟩ => (match cd.mro, sl.toList with
    | .ref C' :: bm, [_, _, _, _, some (.builtin n), _] => C' == C && n == "ValueError.__new__" && !cd.hasDel && PySem.HandSPX.refsVE bm && cd.hasDict
    | _, _ => false)
  | _ => false) && (decide (findIn K (.ref C) "__setattr__" = some (some (.builtin "object.__setattr__"))) && (decide (subIn K (.ref C) (.type "BaseException") = some true) && (decide (typeIn K (.ref C) = some (.type "type")) && keepIn K (.ref C))))
theorem oexB_ok {K : Frag} {C : Addr} (h : oexB K C = true) : OexC K C := by
  unfold oexB at h
  obtain ⟨q, h⟩ := He.ba h
  obtain ⟨h1, h⟩ := He.ba h
  obtain ⟨h2, h⟩ := He.ba h
  obtain ⟨h3, h4⟩ := He.ba h
  refine ⟨?_, of_decide_eq_true h1, of_decide_eq_true h2, of_decide_eq_true h3, h4⟩
  split at q
  · rename_i dd cd sl ho
    split at q
    · rename_i C' bm k0 k1 k2 k3 n k5 hm hs
      simp only [Bool.and_eq_true, beq_iff_eq, Bool.not_eq_true'] at q
      obtain ⟨⟨⟨⟨rfl, rfl⟩, hdel⟩, ht⟩, hdict⟩ := q
      obtain ⟨nm, bs, mro, ns, qn, hd, sn, sub, ab, col, del⟩ := cd
      dsimp only at hm hdel hdict
      subst hm hdel hdict
      have hsl : sl = #[k0, k1, k2, k3, some (.builtin "ValueError.__new__"), k5] := by
        rw [← Array.toArray_toList (xs := sl), hs]
      subst hsl
      exact ⟨nm, qn, ns, bs, bm, sn, sub, ab, col, dd, k0, k1, k2, k3, k5, ho, ht⟩
    · cases q
  · cases q
/-- an own __init__ of an exception class: what is looked at -/
abbrev FnY : Type := Option (Str × Arguments × FuncBody × Scope × Addr × List Str × Addr)
structure XcD where
  cls : Str
  qual : Str
  params : Arguments
  body : List Stmt
  scope : Scope
def xcAd (K : Frag) (x : Str) : Addr := He.ma K (He.ga K x) "__init__"
def fnY (K : Frag) (x : Str) : FnY := match K.lookup (xcAd K x) with
  | some ⟨_, _, .func fd, _⟩ => some (fd.qualname, fd.params, fd.body, fd.scope, fd.globals, fd.closure.map (·.1), fd.builtins)
  | _ => none
def XcD.val (d : XcD) : FnY := some (d.qual, d.params, .stmts d.body, d.scope, mainGlobals, ["__class__"], builtinsNs)
def XcD.fdB (K : Frag) (file : Str) (d : XcD) : Bool := match K.lookup (xcAd K d.cls) with
  | some ⟨_, _, .func fd, _⟩ => (match fd.closure with
    | [(_, cc)] => (match K.lookup cc with
      | some ⟨_, _, .cell (some (.ref D)), _⟩ => D == He.ga K d.cls
      | _ => false)
    | _ => false) && (match fd.code with
    | .ref cda => codeIn K (.ref cda) d.qual && (match K.lookup cda with
      | some ⟨_, _, .fields vs, _⟩ => (match (vs[2]? : Option Value) with
        | some (.str fl _) => fl == file
        | _ => false)
      | _ => false)
    | _ => false) && (decide (fd.name = ("__init__" : Str)) && (match fd.defaults with
    | .none => true
    | _ => false))
  | _ => false
def XcD.ok (K : Frag) (file : Str) (d : XcD) : Bool := d.fdB K file && (oexB K (He.ga K d.cls) && ((clsIn K (He.ga K d.cls)).isSome && (decide (mroIn K (He.ga K d.cls) (.ref (He.ga K d.cls)) = some true) &&
  (decide (nsIn K cStatics "thirdparty.any" = some none) && (decide (ks_superIn K (He.ga K d.cls) (He.ga K d.cls) "__init__" = some (some (.builtin "ValueError.__init__"))) && (decide (subIn K (.ref (He.ga K d.cls)) (.type "ValueError") = some true) &&
  (decide (findIn K (.ref (He.ga K d.cls)) "__init__" = some (some (.ref (xcAd K d.cls)))) && decide (typeIn K (.ref (xcAd K d.cls)) = some (.type "function")))))))))
/-- what is known of the class -/
structure XcK (P : Program) (K : Frag) (mg : Str → Option Value) (d : XcD) : Prop where
  ex : ∃ fd cc c, SupC P K mg (He.ga K d.cls) (xcAd K d.cls) fd ⟨"__init__", d.qual, d.params, d.body, d.scope, [("__class__", cc)], c⟩ ((d.params.posonlyargs ++ d.params.args).map (·.arg))
  oex : OexC K (He.ga K d.cls)
  ini : findIn K (.ref (He.ga K d.cls)) "__init__" = some (some (.ref (xcAd K d.cls)))
  ty : typeIn K (.ref (xcAd K d.cls)) = some (.type "function")
theorem XcD.known {P : Program} {K : Frag} {mg : Str → Option Value} {d : XcD} (e : fnY K d.cls = d.val) (c : d.ok K P.main.file = true) (hmg : mg "super" = none) (htop : (P.main.scope.names.lookup ("super" : Str)).isSome = false)
    (hks : d.scope.names.lookup ("super" : Str) = some .globalImplicit) (hkc : d.scope.names.lookup ("__class__" : Str) = some .free) {ar : Arg} {ars : List Arg} (hpa : d.params.posonlyargs ++ d.params.args = ar :: ars) (hka : d.scope.names.lookup ar.arg = some .local) : XcK P K mg d := by
  unfold XcD.ok at c
  obtain ⟨c0, c⟩ := He.ba c
  obtain ⟨c1, c⟩ := He.ba c
  obtain ⟨c2, c⟩ := He.ba c
  obtain ⟨c3, c⟩ := He.ba c
  obtain ⟨c4, c⟩ := He.ba c
  obtain ⟨c5, c⟩ := He.ba c
  obtain ⟨c6, c⟩ := He.ba c
  obtain ⟨c7, c8⟩ := He.ba c
  refine ⟨?_, oexB_ok c1, of_decide_eq_true c7, of_decide_eq_true c8⟩
  unfold XcD.fdB at c0
  unfold fnY at e
  cases q : K.lookup (xcAd K d.cls) with
  | none => rw [q] at c0; cases c0
  | some o =>
    obtain ⟨oc, od, dt, osl⟩ := o
    rw [q] at c0 e
    cases dt with
    | func fd =>
      obtain ⟨n1, n2, n3, n4, n5, n6, n7, n8, n9, n10, n11, n12, n13, n14, n15⟩ := fd
      have e2 : (some (n2, n3, n4, n5, n6, n7.map (·.1), n15) : FnY) = (some (d.qual, d.params, .stmts d.body, d.scope, mainGlobals, ["__class__"], builtinsNs) : FnY) := e
      simp only [Option.some.injEq, Prod.mk.injEq] at e2
      obtain ⟨h2, h3, h4, h5, h6, h7, h8⟩ := e2
      subst h2 h3 h4 h5 h6 h8
      dsimp only at c0
      obtain ⟨kab, kc⟩ := He.ba c0
      obtain ⟨kA, kB⟩ := He.ba kab
      obtain ⟨kc, kd⟩ := He.ba kc
      have kc := of_decide_eq_true kc
      subst kc
      clear kab c0
      have kd2 : n8 = Value.none := by
        cases n8 with
        | none => rfl
        | _ => cases kd
      subst kd2
      cases n7 with
      | nil => cases h7
      | cons p r =>
        cases r with
        | cons _ _ => simp at h7
        | nil =>
          obtain ⟨nm, cc⟩ := p
          have hn : nm = ("__class__" : Str) := by
            simp only [List.map_cons, List.map_nil, List.cons.injEq, and_true] at h7
            exact h7
          subst hn
          dsimp only at kA
          cases n13 with
          | ref cda =>
            dsimp only at kB
            obtain ⟨k4, k5⟩ := He.ba kB
            cases qc : K.lookup cc with
            | none => rw [qc] at kA; cases kA
            | some oc2 =>
              obtain ⟨a1, a2, a3, a4⟩ := oc2
              rw [qc] at kA
              cases a3 with
              | cell v =>
                cases v with
                | none => cases kA
                | some v =>
                  cases v with
                  | ref D =>
                    have hD : D = He.ga K d.cls := eq_of_beq kA
                    subst hD
                    cases qd : K.lookup cda with
                    | none => rw [qd] at k5; cases k5
                    | some od2 =>
                      obtain ⟨b1, b2, b3, b4⟩ := od2
                      rw [qd] at k5
                      cases b3 with
                      | fields vs =>
                        dsimp only at k5
                        cases qv : vs[2]? with
                        | none => rw [qv] at k5; cases k5
                        | some v2 =>
                          rw [qv] at k5
                          cases v2 with
                          | str fl tf =>
                            have hfl : fl = P.main.file := eq_of_beq k5
                            subst hfl
                            obtain ⟨cdD, hcd⟩ := Option.isSome_iff_exists.mp c2
                            exact ⟨_, cc, cda, ⟨oc, od, osl, n9, n10, n11, n12, n14, rfl, q⟩, k4, ⟨cc, a1, a2, a4, rfl, qc⟩, ⟨ar, ars.map (·.arg), by rw [hpa]; rfl, by rw [hpa]; rfl, hka⟩, ⟨b1, b2, vs, b4, P.main.file, tf, qd, qv, by simp⟩, ⟨cdD, hcd⟩,
                              of_decide_eq_true c3, hks, hkc, hmg, htop, of_decide_eq_true c4, of_decide_eq_true c5, of_decide_eq_true c6, oexB_ok c1⟩
                          | _ => cases k5
                      | _ => cases k5
                  | _ => cases kA
              | _ => cases kA
          | _ => cases kB
    | _ => cases c0
end Sim

/-! own exceptions raised: their mirrors and promises -/
namespace Sim
open PySem PySem.Spec PyProof.Rows L2 Evl NdefX
/-- an exception's field: data -/
inductive Xv where
  | int (i : Int)
  | str (s : Str)
deriving DecidableEq
def rX : Rep Xv := ⟨fun _ v x => match x with
  | .int i => v = .int i
  | .str s => v = .str s, fun {_ _ v x} _ h => by cases x <;> exact h⟩
structure Xn where
  cls : Str
  fs : List (Str × Xv)
/-- its dict at d -/
def Xat (G : Hp) (e : Xn) (d : Addr) : Prop := ∃ fs, G d = some (.xd fs) ∧ ∀ f x, e.fs.lookup f = some x → ∃ v, fs.lookup f = some v ∧ rX.r G v x
section
variable {K : PySem.W.Frag} {σ : L2.St} {G H G0 H0 : Hp} {ls : List Addr} {cs : Cs} {ta : TA} {ι : Type} {A : AR ι}
end
end Sim

/-! the __init__ of an own exception, walked -/
namespace Sim
open PySem PySem.Spec PyProof.Rows L2 Evl NdefX
section
variable {K : PySem.W.Frag} {σ : L2.St} {H : Hp} {a C dx : Addr} {D : Ends}
end
section
variable {CX : CXT} {P : Program} {w : World} {K : PySem.W.Frag} {mg : Str → Option Value} {base : Heap} {N ps : List Str} {F : NF} {C f : Addr} {fd : FuncData} {k : Nat} {t : Str} {rest : List Stmt} {p0 p1 p2 p3 p4 pc : Pos} {j : Nat} {pl : Sem Bool} {names : List Str} {fi : List (Str × Nat)}
end
end Sim

/-! calls that may raise, at the caller's slots; try -/
namespace L2
open PySem PySem.Spec PyProof.Rows
section
variable {X : Cx} {CX : CXT} {k : Nat} {f C : Addr} {fd : FuncData} {ps : List Str} {sp : Sp} {E : St → XK} {x m : Str} {p pos apos : Pos} {e o : Expr} {es : List Expr} {ta : TE} {t : TA}
end
/-- several clauses, each with a name -/
def wManyA (K : PySem.W.Frag) (Wout : WX) (D : Ends) : List (Value × Option Nat × (Addr → Value → Option Addr → TS)) → WX
  | [] => Wout
  | (c, some i, ts) :: r => fun cls d σ H => ∃ b, PySem.W.exmOne K cls c = some b ∧ (b = true → ∀ a, H a = none → ts a cls d { nx := fun σ' H' => D.nx (σ'.set i none) H', rt := D.rt, bk := fun σ' H' => D.bk (σ'.set i none) H', ct := fun σ' H' => D.ct (σ'.set i none) H' } (σ.set i (some (.ref a))) H) ∧
      (b = false → wManyA K Wout D r cls d σ H)
  | (c, none, ts) :: r => fun cls d σ H => ∃ b, PySem.W.exmOne K cls c = some b ∧ (b = true → ∀ a, H a = none → ts a cls d D σ H) ∧ (b = false → wManyA K Wout D r cls d σ H)
end L2
namespace Sim
open PySem PySem.Spec PyProof.Rows L2 Evl
section
variable {K : PySem.W.Frag} {σ : L2.St} {G H W G0 H0 : Hp} {ls : List Addr} {cs : Cs} {ta : TA} {to te : TE} {ι α β γ : Type} {A : AR ι} {R : Rep α} {S : Rep β} {T : Rep γ} {t u : TS} {D : Ends}
theorem Xat.mono {G G2 : Hp} {e : Xn} {d : Addr} (x : Ex G G2) (h : Xat G e d) : Xat G2 e d := by
  obtain ⟨fs, h1, h2⟩ := h
  exact ⟨fs, x d _ h1, fun f y hy => by obtain ⟨v, h3, h4⟩ := h2 f y hy; exact ⟨v, h3, rX.mono x h4⟩⟩
end
end Sim

/-! try with several clauses, each with or without a name -/
namespace L2
open PySem PySem.Spec PyProof.Rows
/-- one clause: its class, the slot of its name, its suite -/
abbrev Cla : Type := Value × Option Nat × (Addr → Value → Option Addr → TS)
def SuOk (X : Cx) (su : List Stmt) (ts : Addr → Value → Option Addr → TS) : Prop := ∀ (a : Addr) (oe : Obj) (cls : Value) (d : Option Addr) (pn : List (Addr × Obj)), Zc cls d oe → (∃ vs, oe.data = .fields vs) → PSs (X.suite a ((a, oe) :: pn)) su (ts a cls d)
inductive HdsA (X : Cx) : List ExceptHandler → List Cla → Prop
  | nil : HdsA X [] []
  | plain {x : Str} {c : Value} {ts} {b₀ : Stmt} {su : List Stmt} {np p : Pos} {hds l} (hc : Names X x c) (hsu : SuOk X (b₀ :: su) ts) (r : HdsA X hds l) : HdsA X (.ExceptHandler (some (.Name x np)) none (b₀ :: su) p :: hds) ((c, none, ts) :: l)
  | as_ {x n : Str} {i : Nat} {c : Value} {ts} {b₀ : Stmt} {su : List Stmt} {np p : Pos} {hds l} (hc : Names X x c) (hi : X.N[i]? = some n) (hln : X.env.kindOf n = some .local) (hsu : SuOk X (b₀ :: su) ts) (r : HdsA X hds l) :
      HdsA X (.ExceptHandler (some (.Name x np)) (some n) (b₀ :: su) p :: hds) ((c, some i, ts) :: l)
/-- the exception at a is in the air over the state s, sI is the state without it -/
structure Aloft (X : Cx) (pins : List (Addr × Obj)) (σ : L2.St) (H : Hp) (cls : Value) (d : Option Addr) (a : Addr) (B : Heap) (sI s : Shared) : Prop where
  inv : Inv X pins σ H sI
  nb : ∀ b o, sI.heap.get? b = some o → b ∉ frs X.stack → B.get? b = some o
  up : sI.heap.UpToSlots s.heap
  fl : HandSPX.FlyingZ B X.stack a (Zc cls d) s.heap
  na : H a = none
  os : s.os = sI.os
  ag : AllBare s.gens
section
variable {X : Cx} {pins : List (Addr × Obj)} {σ : L2.St} {H : Hp} {cls : Value} {d : Option Addr} {a : Addr} {B : Heap} {sI s : Shared}
/-- seen from within a suite -/
theorem Aloft.within (A : Aloft X pins σ H cls d a B sI s) (hs : X.stack = X.env :: X.outer) (hf : X.env.frame = some X.env.locals) :
    ∃ oe, s.heap.get? a = some oe ∧ Zc cls d oe ∧ (∃ vs, oe.data = .fields vs) ∧ Inv X pins σ H s ∧ Inv (X.suite a ((a, oe) :: (X.pn ++ pins))) [] σ H s := by
  obtain ⟨oe, vs, h1, h2, h3⟩ := A.fl.there
  have J : Inv X pins σ H s := A.inv.landed A.nb A.fl.1 A.up A.os A.ag
  have out : a ∉ frs X.stack := fun hm => by
    obtain ⟨_, o, ho, hn⟩ := A.fl.2.2.1.mem hm
    rw [h1] at ho
    cases ho
    exact hn _ h3
  rw [hs] at out
  refine ⟨oe, h1, h2, ⟨vs, h3⟩, J, J.suite h1 h3 A.na (fun z => out ?_) (fun hm => out ?_)⟩
  · exact List.mem_filterMap.mpr ⟨X.env, List.mem_cons_self, by rw [hf, z]⟩
  · obtain ⟨e, he, q⟩ := List.mem_filterMap.mp hm
    exact List.mem_filterMap.mpr ⟨e, List.mem_cons_of_mem _ he, q⟩
/-- no clause is left -/
theorem Aloft.pass {Wout : WX} {Q : Flow → Shared → Prop} (A : Aloft X pins σ H cls d a B sI s) (hs : X.stack = X.env :: X.outer) (hf : X.env.frame = some X.env.locals) (tk : Takes X Wout) (w : Wout cls d σ H) :
    wpAny (model X.prog X.w) X.A (handleBy (.ref a) X.env []) Q X.xe s := by
  have fl := A.fl
  obtain ⟨_, _, _, oe, vs, T, oT, ts, h1, h2, h3, h4, _⟩ := id fl
  refine wpAny_handleBy_nil ?_
  unfold PySem.passOn
  refine wpAny_bind (wpAny_field h1 h3 h4 ?_)
  rw [if_neg (show ¬ ((Value.ref T == Value.none) = true) from by simp)]
  have last : wpAny (model X.prog X.w) X.A (setFlight (.ref a) X.env.frame) (fun _ s4 => wpAny (model X.prog X.w) X.A (throw (.ref a) : Sem Flow) Q X.xe s4) X.xe s := by
    rw [hf]
    rw [hs] at fl
    exact HandSPX.setFlight_upZ fl fun h4 hh up => wpAny_throw (tk _ _ ⟨a, B, sI, pins, σ, H, cls, d, rfl, A.inv, A.nb, A.up.trans up, .inr (.inr (by rw [hs]; exact hh)), A.na, A.os, A.ag, w⟩)
  first
    | exact wpAny_bind (wpAny_pure (wpAny_bind last))
    | exact wpAny_bind last
/-- the clauses, one after the other -/
theorem Aloft.go {Wout : WX} {D : Ends} (A : Aloft X pins σ H cls d a B sI s) (ok : X.Ok) (hN : X.N.Nodup) (hs : X.stack = X.env :: X.outer) (hf : X.env.frame = some X.env.locals) (tk : Takes X Wout) {hds : List ExceptHandler} {l : List Cla}
    (hk : HdsA X hds l) : wManyA X.K Wout D l cls d σ H → wpAny (model X.prog X.w) X.A (handleBy (.ref a) X.env hds) (SP X pins D) X.xe s := by
  obtain ⟨oe, h1, h2, _, J, S⟩ := A.within hs hf
  have ask : ∀ {x : Str} {c : Value} {np : Pos} {Q : Value → Shared → Prop} {E : Value → Shared → Prop}, Names X x c → Q c s → wpAny (model X.prog X.w) (X.A.mark (some (.ref a))) (eval (.Name x np) X.env) Q E s := fun {x c np Q E} hc q => by
    obtain ⟨hg, hd, hm | ⟨hm, hv, hn⟩⟩ := hc
    · exact ld_glob (X := X.suite a ((a, oe) :: (X.pn ++ pins))) S hg hm q hd
    · exact ld_blt (X := X.suite a ((a, oe) :: (X.pn ++ pins))) S hg hm hv q hn hd
  have kind : PySem.W.Looks (model X.prog X.w) s.heap (typeOf (.ref a)) cls := fun A Q E s k q => wpAny_typeOf_ref (k _ _ h1) (by rw [h2.1]; exact q)
  induction hk with
  | nil => exact fun w => A.pass hs hf tk w
  | @plain x c ts b₀ su np p hds l hc hsu r ih =>
    rintro ⟨b, hb, yes, no⟩
    refine wpAny_handleBy_cons (codeAny_handlers_test ?_) (by intro q; cases q)
    refine ask hc ((PySem.W.exm_one (M := model X.prog X.w) J.kIn kind hb).here ?_)
    cases b with
    | false => exact ih (no rfl)
    | true =>
      refine codeAny_handlers_suite ?_
      have fl := A.fl
      rw [hs] at fl
      refine HandSPX.lands_againZ fl fun h4 fl4 up4 => ?_
      have A4 : Aloft X pins σ H cls d a B sI { s with heap := h4 } := ⟨A.inv, A.nb, A.up.trans up4, by rw [hs]; exact fl4, A.na, A.os, A.ag⟩
      obtain ⟨oe4, _, z4, f4, _, S4⟩ := A4.within hs hf
      refine wpAny_mono ((hsu a oe4 cls d _ z4 f4).run [] _ _ H _ S4 (yes rfl a A.na)) (fun f s6 hsp => ?_) (fun _ _ z => False.elim z)
      cases f with
      | ret u => obtain ⟨v, σ6, H6, S6, r6, q⟩ := hsp; exact ⟨v, σ6, H6, S6.unsuite ok, r6, q⟩
      | next => obtain ⟨σ6, H6, S6, q⟩ := hsp; exact ⟨σ6, H6, S6.unsuite ok, q⟩
      | brk => obtain ⟨σ6, H6, S6, q⟩ := hsp; exact ⟨σ6, H6, S6.unsuite ok, q⟩
      | cont => obtain ⟨σ6, H6, S6, q⟩ := hsp; exact ⟨σ6, H6, S6.unsuite ok, q⟩
  | @as_ x n i c ts b₀ su np p hds l hc hi hln hsu r ih =>
    rintro ⟨b, hb, yes, no⟩
    refine wpAny_handleBy_cons (codeAny_handlers_test ?_) (by intro q; cases q)
    refine ask hc ((PySem.W.exm_one (M := model X.prog X.w) J.kIn kind hb).here ?_)
    cases b with
    | false => exact ih (no rfl)
    | true =>
      refine codeAny_handlers_suite_as ?_
      have fl := A.fl
      rw [hs] at fl
      refine HandSPX.lands_againZ fl fun h4 fl4 up4 => ?_
      have A4 : Aloft X pins σ H cls d a B sI { s with heap := h4 } := ⟨A.inv, A.nb, A.up.trans up4, by rw [hs]; exact fl4, A.na, A.os, A.ag⟩
      obtain ⟨oe4, _, z4, f4, _, S4⟩ := A4.within hs hf
      refine store_ok (X := X.suite a ((a, oe4) :: (X.pn ++ pins))) (v := .ref a) S4 hN hi (.inl hln) rfl (fun s5 S5 => ?_) (.inr hln)
      refine wpAny_mono ((hsu a oe4 cls d _ z4 f4).run [] s5 _ H _ S5 (yes rfl a A.na)) (fun f s6 hsp => ?_) (fun _ _ z => False.elim z)
      have off : ∀ {σ6 : L2.St} {H6 : Hp} {Q : Shared → Prop}, Inv (X.suite a ((a, oe4) :: (X.pn ++ pins))) [] σ6 H6 s6 → (∀ s7, Inv X pins (σ6.set i none) H6 s7 → Q s7) →
          wpAny (model X.prog X.w) X.A (do bindName X.env n .none; unbindBehindTheSuite X.env n p) (fun _ s7 => Q s7) X.xe s6 := fun S6 k => gone_ok (S6.unsuite ok) hN hi hln k
      cases f with
      | ret u => obtain ⟨v, σ6, H6, S6, r6, q⟩ := hsp; exact off S6 fun s7 J7 => ⟨v, _, H6, J7, r6, q⟩
      | next => obtain ⟨σ6, H6, S6, q⟩ := hsp; exact off S6 fun s7 J7 => ⟨_, H6, J7, q⟩
      | brk => obtain ⟨σ6, H6, S6, q⟩ := hsp; exact off S6 fun s7 J7 => ⟨_, H6, J7, q⟩
      | cont => obtain ⟨σ6, H6, S6, q⟩ := hsp; exact off S6 fun s7 J7 => ⟨_, H6, J7, q⟩
end
section
variable {X : Cx} {body : List Stmt} {h₀ : ExceptHandler} {hds : List ExceptHandler} {l : List Cla} {pos : Pos} {tb : WX → TS} {Wout : WX}
end
end L2

/-! the hook with own exceptions -/
namespace Sim
open PySem PySem.Spec PyProof.Rows L2 Evl
/-- the property f of the class C, its place, its getter -/
def prP (K : PySem.W.Frag) (C f : Str) : Addr := He.ma K (He.ga K C) f
def wrG (K : PySem.W.Frag) (k : String) (C f : Str) : Addr := match PySem.W.recIn K (prP K C f) k with
  | some (.ref g :: _) => g
  | _ => 0
def statB (C f : Str) (K : PySem.W.Frag) : Bool := decide (PySem.W.specialIn K (.ref (He.ga K C)) "__getattribute__" = some (some (.builtin "type.__getattribute__"))) && (decide (PySem.W.typeIn K (.ref (He.ga K C)) = some (.type "type")) &&
  (PySem.W.readsIn K (He.ga K C) (.type "type") && ((match PySem.W.findCls K (.ref (He.ga K C)) (.type "type") f with
    | some (.get (.builtin n) (.ref p) .none (.ref D)) => n == "staticmethod.__get__" && (p == prP K C f && D == He.ga K C)
    | _ => false) && (match PySem.W.recIn K (prP K C f) "staticmethod" with
    | some (.ref g :: _) => PySem.W.handedIn (.ref g)
    | _ => false))))
def propB (C f : Str) (K : PySem.W.Frag) : Bool := decide (PySem.W.findIn K (.ref (He.ga K C)) f = some (some (.ref (prP K C f)))) && (decide (PySem.W.specialIn K (.ref (prP K C f)) "__get__" = some (some (.builtin "property.__get__"))) &&
  (decide (PySem.W.takesIn K (.ref (prP K C f)) = some true) && (match PySem.W.recIn K (prP K C f) "property" with
    | some (.ref _ :: _) => true
    | _ => false)))
/-- a property's getter: a def -/
structure GeD where
  kind : String
  cls : Str
  prop : Str
  qual : Str
  params : Arguments
  body : List Stmt
  scope : Scope
def fnG (K : PySem.W.Frag) (k : String) (C f : Str) : He.FnW := match K.lookup (wrG K k C f) with
  | some ⟨_, _, .func fd, _⟩ => some (fd.name, fd.qualname, fd.params, fd.body, fd.scope, fd.globals, fd.closure, fd.builtins)
  | _ => none
def GeD.val (d : GeD) : He.FnW := some (d.prop, d.qual, d.params, .stmts d.body, d.scope, mainGlobals, [], builtinsNs)
def GeD.ok (K : PySem.W.Frag) (d : GeD) : Bool := (bif d.kind == "property" then propB d.cls d.prop K else statB d.cls d.prop K) && (PySem.W.keepIn K (.ref (wrG K d.kind d.cls d.prop)) && (match K.lookup (wrG K d.kind d.cls d.prop) with
  | some ⟨_, _, .func fd, _⟩ => PySem.W.codeIn K fd.code d.qual && (He.dflB K fd.defaults [] && He.kwdB K fd.kwdefaults [])
  | _ => false))
abbrev AlX : Type := He.AlD × Bool × List FnY × List He.FnW
def obsX (fa : List He.Fa) (fn : List He.DefD) (ex : List (PySem.W.Frag → Bool)) (xs : List XcD) (gs : List GeD) (file : Str) (K : PySem.W.Frag) : AlX := (He.obsD fa fn K, (ex.all fun e => e K) && ((xs.all fun d => d.ok K file) && gs.all fun d => d.ok K), (xs.map fun d => fnY K d.cls), gs.map fun d => fnG K d.kind d.cls d.prop)
structure SaysX (fa : List He.Fa) (fn : List He.DefD) (ex : List (PySem.W.Frag → Bool)) (xs : List XcD) (gs : List GeD) (file : Str) (K : PySem.W.Frag) : Prop where
  d : He.SaysD fa fn K
  x : ((ex.all fun e => e K) && ((xs.all fun d => d.ok K file) && gs.all fun d => d.ok K)) = true
  y : (xs.map fun d => fnY K d.cls) = xs.map XcD.val
  g : (gs.map fun d => fnG K d.kind d.cls d.prop) = gs.map GeD.val
structure TxX (fa : List He.Fa) (fn : List He.DefD) (es : List (PySem.W.Frag → Bool)) (xs : List XcD) (gs : List GeD) (file : Str) (K : PySem.W.Frag) (mg : Str → Option Value) : Prop extends TxE fa fn es K mg where
  xo : (xs.all fun d => d.ok K file) = true
  xv : (xs.map fun d => fnY K d.cls) = xs.map XcD.val
  go : (gs.all fun d => d.ok K) = true
  gv : (gs.map fun d => fnG K d.kind d.cls d.prop) = gs.map GeD.val
section
variable {fa : List He.Fa} {fn : List He.DefD} {es : List (PySem.W.Frag → Bool)} {xs : List XcD} {gs : List GeD} {file : Str} {K : PySem.W.Frag} {mg : Str → Option Value}
end
/-- further Bools: fields of an exception, isinstance of it, a property -/
def noB (C f : Str) (K : PySem.W.Frag) : Bool := decide (PySem.W.findIn K (.ref (He.ga K C)) f = some none)
def exmB (C D : Str) (b : Bool) (K : PySem.W.Frag) : Bool := decide (PySem.W.exmOne K (.ref (He.ga K C)) (.ref (He.ga K D)) = some b)
end Sim

/-! isinstance of a caught exception that has fields; properties -/
namespace PySem.W
open PySem PySem.Calls PyProof.Rows PySem.Spec
section
variable {prog : Program} {w : World} {A : Around} {E : Value → Shared → Prop} {s : Shared} {K : Frag} {x D : Addr} {ox : Obj} {od : Obj}
end
end PySem.W
namespace L2
open PySem PySem.Spec PyProof.Rows
end L2
namespace Sim
open PySem PySem.Spec PyProof.Rows L2 Evl
section
variable {K : PySem.W.Frag} {σ : L2.St} {G H W : Hp} {to : TE} {ta : TA} {α γ : Type} {T : Rep γ}
end
end Sim

namespace Sim
open PySem PySem.Spec PyProof.Rows L2 Evl
end Sim

/-! a class made whose __init__ may raise; isinstance of whatever was caught; tables of exception classes -/
namespace L2
open PySem PySem.Spec PyProof.Rows
section
variable {X : Cx} {CX : CXT} {k : Nat} {f C : Addr} {fd : FuncData} {ps : List Str} {sp : Sp} {E : St → XK} {x m : Str} {p pos apos : Pos} {e o : Expr} {es : List Expr} {ta : TE} {t : TA}
end
end L2
namespace Sim
open PySem PySem.Spec PyProof.Rows L2 Evl
/-! tables: what the top's end says of the exception classes cs -/
def excCB (K : PySem.W.Frag) (D : Addr) : Bool := decide (PySem.W.findIn K (.ref D) "__getattribute__" = some (some (.builtin "BaseException.__getattribute__"))) && (decide (PySem.W.findIn K (.ref D) "__getattr__" = some none) &&
  (decide (PySem.W.subIn K (.ref D) (.type "BaseException") = some true) && (PySem.W.hasDictIn K D && (decide (PySem.W.findIn K (.ref D) "__class__" = some (some (.builtin "object.__class__"))) &&
  (decide (PySem.W.specialIn K (.builtin "object.__class__") "__get__" = some (some (.builtin "getset_descriptor.__get__"))) && (decide (PySem.W.takesIn K (.builtin "object.__class__") = some true) && decide (PySem.W.mroIn K D (.type "object") = some true)))))))
/-- each of cs: an exception class that is told by its fields -/
def xsB (cs : List Str) (K : PySem.W.Frag) : Bool := cs.all fun C => excCB K (He.ga K C) && xfB K (He.ga K C)
/-- no attribute of these names in the classes -/
def xnB (cs : List Str) (fs : List Str) (K : PySem.W.Frag) : Bool := cs.all fun C => fs.all fun f => noB C f K
/-- for each of cs: the clause 'except D' -/
def xaB (cs : List Str) (D : Str) (b : Bool) (K : PySem.W.Frag) : Bool := cs.all fun C => exmB C D b K
def kiB (C : Str) (v : Value) (b : Bool) (K : PySem.W.Frag) : Bool := decide (PySem.W.kitOne K (.ref (He.ga K C)) v = some b)
section
variable {K : PySem.W.Frag} {cs fs : List Str} {C D f : Str} {b : Bool}
end
section
variable {K : PySem.W.Frag} {σ : L2.St} {G H W G0 H0 G2 H2 : Hp} {ls : List Addr} {cs : Cs} {ta tb : TA} {to te tu : TE} {ι α β γ : Type} {A : AR ι} {R : Rep α} {S : Rep β} {T : Rep γ} {D : Ends} {l C : Addr} {ns : List Str} {fl : α → List Pd}
end
end Sim

/-! properties; == of further data; list + list; index; all, any -/
namespace Sim
open PySem PySem.Spec PyProof.Rows L2 Evl
section
variable {K : PySem.W.Frag} {σ : L2.St} {G H W G' W' : Hp} {ta : TA} {te tu : TE} {ι α β γ : Type} {A : AR ι} {R : Rep α} {S : Rep β} {T : Rep γ}
end
end Sim

/-! operators of own classes: ==, len, in, binary and unary ones -/
namespace L2
open PySem PySem.Spec PyProof.Rows
section
variable {X : Cx} {CX : CXT} {k : Nat} {f C : Addr} {fd : FuncData} {ps : List Str} {sp : Sp} {pins : List (Addr × Obj)} {σ : St} {H : Hp} {s : Shared} {ta tb : TE}
end
end L2

/-! operators of own classes: what they read as -/
namespace Sim
open PySem PySem.Spec PyProof.Rows L2 Evl
section
variable {K : PySem.W.Frag} {σ : L2.St} {G H W : Hp} {ta tb te : TE} {tA : TA} {α β γ ι : Type} {R : Rep α} {S : Rep β} {T : Rep γ} {A : AR ι} {C : Addr} {ns : List Str} {fl : α → List Pd}
/-- isinstance of an own class's instance -/
def tyiB (C : Str) (K : PySem.W.Frag) : Bool := decide (PySem.W.findIn K (.ref (He.ga K C)) "__class__" = some (some (.builtin "object.__class__"))) && (decide (PySem.W.specialIn K (.builtin "object.__class__") "__get__" = some (some (.builtin "getset_descriptor.__get__"))) &&
  (decide (PySem.W.takesIn K (.builtin "object.__class__") = some true) && decide (PySem.W.mroIn K (He.ga K C) (.type "object") = some true)))
def kiOB (C D : Str) (b : Bool) (K : PySem.W.Frag) : Bool := kiB C (.ref (He.ga K D)) b K
end
end Sim

/-! what is walked, told in general; comprehensions with two clauses -/
namespace Sim
open PySem L2 Evl
section
variable {K : PySem.W.Frag} {σ : L2.St} {G H W G' W' : Hp} {te tl : TE} {tt tt1 : TT} {α β γ δ : Type} {R : Rep α} {S : Rep β} {T : Rep γ} {wi wi1 : TI} {g g1 : TG}
/-! ### [e2 for x in xs if f1 for y in g2 x if p2] -/
structure Acc (G0 H0 : Hp) (T : Rep γ) (D : Addr) (G H : Hp) (acc : List V) (ys : List γ) : Prop where
  n : H0 D = none
  u : Up G0 H0 G H
  gd : G D = none
  hd : H D = some (.lst acc)
  pr : Paired (T.r G) acc ys
section
variable {G0 H0 : Hp} {D : Addr} {acc : List V} {ys zs : List γ}
theorem Acc.sc {H2 : Hp} (A : Acc G0 H0 T D G H acc ys) (e : Ex H H2) : Acc G0 H0 T D G H2 acc ys := ⟨A.n, A.u.trans (Up.same A.u.gh e), A.gd, e _ _ A.hd, A.pr⟩
theorem Acc.up {G2 H2 : Hp} (A : Acc G0 H0 T D G H acc ys) (u : Up G H G2 H2) : Acc G0 H0 T D G2 H2 acc ys :=
  ⟨A.n, A.u.trans u, u.nw D (by rw [A.hd]; simp) A.gd, u.hh _ _ A.hd, Paired.mapP A.pr fun _ _ => T.mono u.gg⟩
end
/-! ### is True, is False; and where the first operand is known -/
end
section
variable {K : PySem.W.Frag} {σ : L2.St} {G H W : Hp} {te ta : TE} {α : Type}
end
end Sim

/-! static methods, class constants read off the class -/
namespace L2
open PySem PySem.Spec PyProof.Rows
section
variable {X : Cx} {CX : CXT} {k : Nat} {f C p : Addr} {fd : FuncData} {ps : List Str} {sp : Sp} {E : St → XK} {x m : Str} {pos apos : Pos} {e o : Expr} {es : List Expr} {ta : TE} {t : TA}
end
end L2
namespace Sim
open PySem PySem.Spec PyProof.Rows L2 Evl
section
variable {K : PySem.W.Frag} {σ : L2.St} {G H W : Hp} {ta : TA} {ι γ : Type} {A : AR ι} {T : Rep γ} {C : Addr}
end
end Sim

/-! data of mixed kinds; a pair unpacked; one-clause comprehensions over anything -/
namespace Sim
open PySem L2 Evl
mutual
theorem Dp.up {K : PySem.W.Frag} {H H' : Hp} (e : Ex H H') : ∀ {v : V} {d : PyData}, Dp K H v d → Dp K H' v d
  | _, _, .non => .non
  | _, _, .bl b => .bl b
  | _, _, .int i => .int i
  | _, _, .str x => .str x
  | _, _, .lst h t => .lst (ex_l e h) (DpAll.up e t)
  | _, _, .tup h t => .tup (ex_t e h) (DpAll.up e t)
theorem DpAll.up {K : PySem.W.Frag} {H H' : Hp} (e : Ex H H') : ∀ {vs : List V} {ds : List PyData}, DpAll K H vs ds → DpAll K H' vs ds
  | _, _, .nil => .nil
  | _, _, .cons h t => .cons (Dp.up e h) (DpAll.up e t)
end
section
variable {K : PySem.W.Frag} {σ : L2.St} {G H W G0 H0 : Hp} {ls : List Addr} {cs : Cs} {te : TE} {α β γ : Type} {R : Rep α} {S : Rep β} {T : Rep γ} {D : Ends} {tz : TS}
end
section
variable {K : PySem.W.Frag} {σ : L2.St} {G H W : Hp} {te : TE} {tt : TT} {α γ : Type} {R : Rep α} {T : Rep γ} {wi : TI} {g : TG}
end
end Sim

/-! dicts -/
namespace Sim
open PySem L2 Evl
/-- a dict: its entries in order; kf: how a key stands -/
def rM {κ α : Type} (kf : κ → Key) (R : Rep α) : Rep (List (κ × α)) := ⟨fun H v kvs => ∃ a ws, v = .ref a ∧ H a = some (.dK ws) ∧ Paired (fun (p : Key × V) (q : κ × α) => p.1 = kf q.1 ∧ R.r H p.2 q.2) ws kvs,
  fun e ⟨a, ws, h1, h2, h3⟩ => ⟨a, ws, h1, e a _ h2, Paired.mapP h3 fun _ _ h => ⟨h.1, R.mono e h.2⟩⟩⟩
section
variable {K : PySem.W.Frag} {σ : L2.St} {G H W : Hp} {κ α β γ : Type} {kf : κ → Key} {R : Rep α}
end
end Sim

set_option maxHeartbeats 2000000
/-! own iterables: __iter__ gives iter(a list of theirs) -/
namespace L2
open PySem PySem.Spec PyProof.Rows ItX
section
variable {X : Cx} {k j : Nat} {fi C : Addr} {fd : FuncData} {ps : List Str} {pins : List (Addr × Obj)} {σ : St} {H : Hp} {s : Shared} {te : TE} {f : Str}
/-! ### list(o) -/
variable {fl : Addr} {fdl : FuncData} {psl : List Str} {spl : Sp}
end
end L2

namespace Sim
open PySem L2 Evl
section
variable {K : PySem.W.Frag} {σ : L2.St} {G H W : Hp} {te : TE} {α β γ : Type} {R : Rep β} {C : Addr} {ns : List Str} {fl : α → List Pd}
end
end Sim
namespace Sim
open PySem L2
end Sim

set_option maxHeartbeats 2000000
/-! a class with slots -/
namespace L2
open PySem PySem.Spec PyProof.Rows SlX
section
variable {X : Cx} {CX : CXT} {k : Nat} {f C : Addr} {fd : FuncData} {ps : List Str} {sp : Sp} {pins : List (Addr × Obj)} {σ : St} {H : Hp} {s : Shared} {ta tb : TE}
end
end L2
namespace Sim
open PySem PySem.Spec PyProof.Rows L2 Evl SlX
abbrev Ps := List (Nat × Pd)
def PsAt (ps : Ps) (G : Hp) (vs : List (Option V)) : Prop := ∀ q ∈ ps, ∃ v, vs[q.1]? = some (some v) ∧ q.2.p G v
theorem PsAt.mono {ps : Ps} {G G' : Hp} {vs : List (Option V)} (e : Ex G G') (h : PsAt ps G vs) : PsAt ps G' vs := fun q hq => by
  obtain ⟨v, h1, h2⟩ := h q hq
  exact ⟨v, h1, q.2.mono e h2⟩
/-- an instance with slots, as data -/
def rSl {α : Type} (C : Addr) (fl : α → Ps) : Rep α := ⟨fun H v x => ∃ a dx vs, v = .ref a ∧ H a = some (SlO a C dx vs) ∧ H dx = some (.xd []) ∧ PsAt (fl x) H vs,
  fun e ⟨a, dx, vs, h1, h2, h3, h4⟩ => ⟨a, dx, vs, h1, e a _ h2, e dx _ h3, h4.mono e⟩⟩
section
variable {K : PySem.W.Frag} {σ : L2.St} {G0 H0 G H G2 H2 W : Hp} {ls : List Addr} {cs : Cs} {l ld C : Addr} {ta : TA} {te to : TE} {α β γ ι : Type} {R : Rep α} {S : Rep β} {T : Rep γ} {A : AR ι} {D : Ends} {tz : TS} {fl : α → Ps}
theorem PsAt.put {ps : Ps} {vs : List (Option V)} {n : Nat} {v : V} {q : Pd} (h : PsAt ps G vs) (hn : ∀ p ∈ ps, p.1 ≠ n) (r : q.p G v) : PsAt (ps ++ [(n, q)]) G (putS n v vs) := fun p hp => by
  rcases List.mem_append.mp hp with hp | hp
  · obtain ⟨w, h1, h2⟩ := h p hp
    exact ⟨w, (putS_ne (hn p hp)).mpr h1, h2⟩
  · rw [List.mem_singleton.mp hp]
    exact ⟨v, putS_get n v vs, r⟩
/-! own == -/
end
/-! facts of the text -/
def sclB (C : Str) (K : PySem.W.Frag) : Bool := PySem.W.plainGet K (He.ga K C) Str.empty && (PySem.W.isClsIn K (He.ga K C) && (PySem.W.plainOver K (He.ga K C) && decide (PySem.W.findIn K (.ref (He.ga K C)) "__setattr__" = some (some (.builtin "object.__setattr__")))))
def slotB (C f : Str) (i : Nat) (K : PySem.W.Frag) : Bool := decide (PySem.W.findIn K (.ref (He.ga K C)) f = some (some (.ref (He.ma K (He.ga K C) f)))) && (decide (PySem.W.specialIn K (.ref (He.ma K (He.ga K C) f)) "__get__" = some (some (.builtin "member_descriptor.__get__"))) &&
  (decide (PySem.W.takesIn K (.ref (He.ma K (He.ga K C) f)) = some true) && (decide (PySem.W.typeIn K (.ref (He.ma K (He.ga K C) f)) = some (.type "member_descriptor")) && (decide (PySem.W.slotIn K (He.ma K (He.ga K C) f) (He.ga K C) = some i) && decide (i < 1000)))))
end Sim

/-! cells of any kind; dicts; texts -/
namespace L2
open PySem PySem.Spec PyProof.Rows
section
variable {X : Cx}
end
end L2
namespace Sim
open PySem L2 Evl
/-! ### texts -/
section
variable {K : PySem.W.Frag} {σ : L2.St} {G0 H0 G H G2 H2 W : Hp} {ls : List Addr} {cs : Cs} {l : Addr} {cp' : CP} {ta : TA} {te td ti tx : TE} {α β γ ι κ : Type} {R : Rep α} {S : Rep β} {T : Rep γ} {A : AR ι} {D : Ends} {tz : TS}
/-! ### cells of any kind -/
/-- what stands in such a cell is data once nobody changes it -/
def Fz (cp : β → CP) (S : Rep β) : Prop := ∀ {G G' : Hp} {l : Addr} {o : HO} {x : β}, (cp x).p G o → Ex G G' → G' l = some o → S.r G' (.ref l) x
def EC (te : TE) (σ : L2.St) (G W : Hp) (cp : β → CP) (m : Option β) : Prop :=
  ∀ x, m = some x → ∀ H, Ex G H → Ex W H → ∀ Q : VK, (∀ p H2 G2, H p = none → Up G H G2 H2 → Wd G2 H2 [(p, cp x)] → Q (.ref p) H2) → te σ H Q
variable {cp : β → CP}
theorem frzC {G H G1 H1 : Hp} {p : Addr} {x : β} (F : Fz cp S) (hp : H p = none) (u : Up G H G1 H1) (w : Wd G1 H1 [(p, cp x)]) : ∃ G2, Up G H G2 H1 ∧ S.r G2 (.ref p) x := by
  obtain ⟨h1, o, h2, h3⟩ := w.head
  refine ⟨upd G1 p o, u.frz hp (Ex.new h1) (fun a u' e => ?_) (fun a ne h => by rw [upd_ne ne]; exact h), F h3 (Ex.new h1) upd_same⟩
  by_cases q : a = p
  · subst q; rw [upd_same] at e; cases e; exact h2
  · rw [upd_ne q] at e; exact w.ex a u' e
theorem EC.e {m : Option β} (F : Fz cp S) (h : EC te σ G W cp m) : E te σ G W S m := fun x hx H e e' Q q => h x hx H e e' Q fun p H2 G2 hp u w => by
  obtain ⟨G3, u3, r3⟩ := frzC F hp u w
  exact q _ H2 G3 u3 r3
/-! ### dicts -/
variable {κ : Type} [DecidableEq κ] {kf : κ → Key}
def Pm (kf : κ → Key) (R : Rep α) (G : Hp) : List (Key × V) → List (κ × α) → Prop := Paired (fun (p : Key × V) (q : κ × α) => p.1 = kf q.1 ∧ R.r G p.2 q.2)
def cM (kf : κ → Key) (R : Rep α) (kvs : List (κ × α)) : CP := ⟨fun G o => ∃ ws, o = .dK ws ∧ Pm kf R G ws kvs, fun e ⟨ws, h1, h2⟩ => ⟨ws, h1, Paired.mapP h2 fun _ _ h => ⟨h.1, R.mono e h.2⟩⟩⟩
def lookM (kvs : List (κ × α)) (k : κ) : Option α := (kvs.find? fun q => decide (q.1 = k)).map (·.2)
def putM (kvs : List (κ × α)) (k : κ) (x : α) : List (κ × α) := if (kvs.any fun q => decide (q.1 = k)) = true then kvs.map (fun q => if q.1 = k then (q.1, x) else q) else kvs ++ [(k, x)]
end
end Sim

/-! displays and making of objects, opened -/
namespace Sim
open PySem L2 Evl
section
variable {K : PySem.W.Frag} {C : Addr} {σ : L2.St} {G0 H0 G H G2 H2 W : Hp} {ls : List Addr} {cs : Cs} {l : Addr} {ta : TA} {sp : Sp} {dvs : List V} {X : XK} {Q : VK} {α β ι : Type} {R : Rep α} {S : Rep β} {A : AR ι}
end
end Sim

/-! slices of lists, f-strings, join -/
namespace Sim
open PySem L2 Evl
section
variable {K : PySem.W.Frag} {σ : L2.St} {G H W : Hp} {te to : TE} {tl th : TO} {α : Type} {R : Rep α}
/-! f-strings -/
/-! join -/
/-! p[0], p[1] with effects; a cell's element -/
variable {G0 H0 : Hp} {ls : List Addr} {cs : Cs} {l : Addr} {β : Type} {S : Rep β}
/-! C(.., cell, ..) of a class with slots, the cell only read -/
variable {κ ι : Type} {B : Rep κ} {C : Addr} {A : AR ι} {fl : α → Ps} {ad : ι → Addr} {ys : List κ} {ta : TA}
/-! comprehensions over a lent list -/
section
variable {γ : Type} {T : Rep γ} {wi : TI} {g : TG} {tt : TT}
end
/-! what is never reached -/
end
end Sim

/-! for .. in zip(tuple, tuple) -/
namespace Sim
open PySem L2 Evl
section
variable {K : PySem.W.Frag} {σ : L2.St} {G0 H0 G H W : Hp} {ls : List Addr} {cs : Cs} {ta : TA} {α β : Type} {R : Rep α} {S : Rep β} {D : Ends} {tu tz : TS} {g : TG}
/-! displays of lists, sums of lists, opened -/
end
end Sim

/-! an object called: x(..), x of an own class with __call__ -/
namespace PySem.W
open PySem PySem.Spec PySem.Calls PyProof.Rows
end PySem.W
namespace L2
open PySem PySem.Spec PyProof.Rows
section
variable {X : Cx} {CX : CXT} {k i : Nat} {f C : Addr} {fd : FuncData} {ps : List Str} {sp : Sp} {E : St → XK} {x : Str} {p pos : Pos} {e : Expr} {es : List Expr} {t : TA}
end
end L2

set_option maxHeartbeats 4000000
/-! own classes: an __init__ whose first statement is super().__init__(..), over an own class's __init__ -/
namespace Sim
open PySem PySem.Spec PyProof.Rows L2 PySem.W PySem.Calls NdefX
/-- what the written part says of such an __init__, written in the class at D, of an instance of the class at C -/
structure SupP (P : Program) (K : Frag) (mg : Str → Option Value) (D C f g : Addr) (fd : FuncData) (F : NF) (ps : List Str) (dvs : List V) : Prop where
  lk : ∃ oc od osl dV kV doc pm an ct, fd = PySem.W.fnX F.name F.qual F.params F.body F.scope F.cl dV kV doc pm an (.ref F.c) ct ∧ K.lookup f = some ⟨oc, od, .func fd, osl⟩ ∧ DflV K dV dvs
  cd : PySem.W.codeIn K (.ref F.c) F.qual = true
  cl : ∃ cc oc od osl, F.cl = [(("__class__" : Str), cc)] ∧ K.lookup cc = some ⟨oc, od, .cell (some (.ref D)), osl⟩
  par : ∃ ar ps', (F.params.posonlyargs ++ F.params.args).head? = some ar ∧ ps = ar.arg :: ps' ∧ (F.scope.names.lookup ar.arg = some .local ∨ F.scope.names.lookup ar.arg = some .cell)
  code : ∃ ccl cdd vs ccs file tf, K.lookup F.c = some ⟨ccl, cdd, .fields vs, ccs⟩ ∧ vs[2]? = some (.str file tf) ∧ ((P.main.file : Str) == file) = true
  cls : ∃ cdD, clsIn K D = some cdD
  clsC : ∃ cdC, clsIn K C = some cdC
  sub : mroIn K C (.ref D) = some true
  ks : F.scope.names.lookup ("super" : Str) = some .globalImplicit
  kc : F.scope.names.lookup ("__class__" : Str) = some .free
  mg : mg "super" = none
  top : (P.main.scope.names.lookup ("super" : Str)).isSome = false
  opq : nsIn K cStatics "thirdparty.any" = some none
  sup : ks_superIn K C D "__init__" = some (some (.ref g))
  gt : typeIn K (.ref g) = some (.type "function")
  gf : fnIn K g = true
section
variable {CX : CXT} {P : Program} {w : World} {K : PySem.W.Frag} {mg : Str → Option Value} {base : Heap} {N ps psg : List Str} {F : NF} {C D f g : Addr} {fd fdg : FuncData} {k : Nat} {sp spg : Sp} {e : Expr} {es : List Expr} {rest : List Stmt} {p0 p1 p2 p3 p4 : Pos} {pl : Sem Bool}
end
end Sim

/-! askers: objects whose field `asks` holds a list that is changed; that list is a cell of the caller -/
namespace Sim
open PySem L2 Evl
section
variable {K : PySem.W.Frag} {C : Addr} {σ : L2.St} {G0 H0 G H G2 H2 W : Hp} {ls : List Addr} {cs : Cs} {l : Addr} {ta : TA} {te : TE} {X : XK} {α β κ ι : Type} {R : Rep α} {S : Rep β} {T : Rep α} {B : Rep κ} {A : AR ι} {D : Ends} {tz : TS} {ns : List Str}
end
end Sim

/-! the hook with an __init__ that calls super().__init__ of an own class -/
namespace Sim
section
open PySem PySem.Spec PyProof.Rows L2 PySem.W PySem.Calls NdefX
/-- an __init__ that calls super().__init__ of an own class: written in cls, of instances of inst, the other one in base -/
structure SpD where
  cls : Str
  inst : Str
  base : Str
  qual : Str
  params : Arguments
  body : List Stmt
  scope : Scope
  dfl : List He.Dv := []
def SpD.x (d : SpD) : XcD := ⟨d.cls, d.qual, d.params, d.body, d.scope⟩
def SpD.val (d : SpD) : FnY := d.x.val
def SpD.fdB (K : Frag) (file : Str) (d : SpD) : Bool := match K.lookup (xcAd K d.cls) with
  | some ⟨_, _, .func fd, _⟩ => (match fd.closure with
    | [(_, cc)] => (match K.lookup cc with
      | some ⟨_, _, .cell (some (.ref D)), _⟩ => D == He.ga K d.cls
      | _ => false)
    | _ => false) && (match fd.code with
    | .ref cda => codeIn K (.ref cda) d.qual && (match K.lookup cda with
      | some ⟨_, _, .fields vs, _⟩ => (match (vs[2]? : Option Value) with
        | some (.str fl _) => fl == file
        | _ => false)
      | _ => false)
    | _ => false) && (decide (fd.name = ("__init__" : Str)) && He.dflB K fd.defaults (d.dfl.map (He.Dv.v K)))
  | _ => false
def SpD.ok (K : Frag) (file : Str) (d : SpD) : Bool := d.fdB K file && ((clsIn K (He.ga K d.inst)).isSome && ((clsIn K (He.ga K d.cls)).isSome && (decide (mroIn K (He.ga K d.inst) (.ref (He.ga K d.cls)) = some true) &&
  (decide (nsIn K cStatics "thirdparty.any" = some none) && (decide (ks_superIn K (He.ga K d.inst) (He.ga K d.cls) "__init__" = some (some (.ref (xcAd K d.base)))) && (decide (typeIn K (.ref (xcAd K d.base)) = some (.type "function")) &&
  (fnIn K (xcAd K d.base) && decide (xcAd K d.inst = xcAd K d.cls))))))))
theorem SpD.known {P : Program} {K : Frag} {mg : Str → Option Value} {d : SpD} (e : fnY K d.cls = d.val) (c : d.ok K P.main.file = true) (hmg : mg "super" = none) (htop : (P.main.scope.names.lookup ("super" : Str)).isSome = false)
    (hks : d.scope.names.lookup ("super" : Str) = some .globalImplicit) (hkc : d.scope.names.lookup ("__class__" : Str) = some .free) {ar : Arg} {ars : List Arg} (hpa : d.params.posonlyargs ++ d.params.args = ar :: ars) (hka : d.scope.names.lookup ar.arg = some .local ∨ d.scope.names.lookup ar.arg = some .cell) :
    ∃ fd cc c, SupP P K mg (He.ga K d.cls) (He.ga K d.inst) (xcAd K d.cls) (xcAd K d.base) fd ⟨"__init__", d.qual, d.params, d.body, d.scope, [("__class__", cc)], c⟩ ((d.params.posonlyargs ++ d.params.args).map (·.arg)) (d.dfl.map (He.Dv.v K)) := by
  unfold SpD.ok at c
  obtain ⟨c0, c⟩ := He.ba c
  obtain ⟨c1, c⟩ := He.ba c
  obtain ⟨c2, c⟩ := He.ba c
  obtain ⟨c3, c⟩ := He.ba c
  obtain ⟨c4, c⟩ := He.ba c
  obtain ⟨c5, c⟩ := He.ba c
  obtain ⟨c6, c⟩ := He.ba c
  obtain ⟨c7, c8⟩ := He.ba c
  unfold SpD.fdB at c0
  unfold fnY at e
  cases q : K.lookup (xcAd K d.cls) with
  | none => rw [q] at c0; cases c0
  | some o =>
    obtain ⟨oc, od, dt, osl⟩ := o
    rw [q] at c0 e
    cases dt with
    | func fd =>
      obtain ⟨n1, n2, n3, n4, n5, n6, n7, n8, n9, n10, n11, n12, n13, n14, n15⟩ := fd
      have e2 : (some (n2, n3, n4, n5, n6, n7.map (·.1), n15) : FnY) = (some (d.qual, d.params, .stmts d.body, d.scope, mainGlobals, ["__class__"], builtinsNs) : FnY) := e
      simp only [Option.some.injEq, Prod.mk.injEq] at e2
      obtain ⟨h2, h3, h4, h5, h6, h7, h8⟩ := e2
      subst h2 h3 h4 h5 h6 h8
      dsimp only at c0
      obtain ⟨kab, kc⟩ := He.ba c0
      obtain ⟨kA, kB⟩ := He.ba kab
      obtain ⟨kc, kd⟩ := He.ba kc
      have kc := of_decide_eq_true kc
      subst kc
      clear kab c0
      have kd := He.dflB_ok kd
      cases n7 with
      | nil => cases h7
      | cons p r =>
        cases r with
        | cons _ _ => simp at h7
        | nil =>
          obtain ⟨nm, cc⟩ := p
          have hn : nm = ("__class__" : Str) := by
            simp only [List.map_cons, List.map_nil, List.cons.injEq, and_true] at h7
            exact h7
          subst hn
          dsimp only at kA
          cases n13 with
          | ref cda =>
            dsimp only at kB
            obtain ⟨k4, k5⟩ := He.ba kB
            cases qc : K.lookup cc with
            | none => rw [qc] at kA; cases kA
            | some oc2 =>
              obtain ⟨a1, a2, a3, a4⟩ := oc2
              rw [qc] at kA
              cases a3 with
              | cell v =>
                cases v with
                | none => cases kA
                | some v =>
                  cases v with
                  | ref D =>
                    have hD : D = He.ga K d.cls := eq_of_beq kA
                    subst hD
                    cases qd : K.lookup cda with
                    | none => rw [qd] at k5; cases k5
                    | some od2 =>
                      obtain ⟨b1, b2, b3, b4⟩ := od2
                      rw [qd] at k5
                      cases b3 with
                      | fields vs =>
                        dsimp only at k5
                        cases qv : vs[2]? with
                        | none => rw [qv] at k5; cases k5
                        | some v2 =>
                          rw [qv] at k5
                          cases v2 with
                          | str fl tf =>
                            have hfl : fl = P.main.file := eq_of_beq k5
                            subst hfl
                            obtain ⟨cdD, hcd⟩ := Option.isSome_iff_exists.mp c2
                            exact ⟨_, cc, cda, ⟨oc, od, osl, n8, n9, n10, n11, n12, n14, rfl, q, kd⟩, k4, ⟨cc, a1, a2, a4, rfl, qc⟩, ⟨ar, ars.map (·.arg), by rw [hpa]; rfl, by rw [hpa]; rfl, hka⟩, ⟨b1, b2, vs, b4, P.main.file, tf, qd, qv, by simp⟩, ⟨cdD, hcd⟩, Option.isSome_iff_exists.mp c1,
                              of_decide_eq_true c3, hks, hkc, hmg, htop, of_decide_eq_true c4, of_decide_eq_true c5, of_decide_eq_true c6, c7⟩
                          | _ => cases k5
                      | _ => cases k5
                  | _ => cases kA
              | _ => cases kA
          | _ => cases kB
    | _ => cases c0
end
open PySem PySem.Spec PyProof.Rows L2 Evl
abbrev AlZ : Type := AlX × Bool × List FnY
def obsZ (fa : List He.Fa) (fn : List He.DefD) (ex : List (PySem.W.Frag → Bool)) (xs : List XcD) (gs : List GeD) (sp : List SpD) (file : Str) (K : PySem.W.Frag) : AlZ := (obsX fa fn ex xs gs file K, sp.all fun d => d.ok K file, sp.map fun d => fnY K d.cls)
structure SaysZ (fa : List He.Fa) (fn : List He.DefD) (ex : List (PySem.W.Frag → Bool)) (xs : List XcD) (gs : List GeD) (sp : List SpD) (file : Str) (K : PySem.W.Frag) : Prop where
  s : SaysX fa fn ex xs gs file K
  o : (sp.all fun d => d.ok K file) = true
  v : (sp.map fun d => fnY K d.cls) = sp.map SpD.val
structure TxZ (fa : List He.Fa) (fn : List He.DefD) (es : List (PySem.W.Frag → Bool)) (xs : List XcD) (gs : List GeD) (sp : List SpD) (file : Str) (K : PySem.W.Frag) (mg : Str → Option Value) : Prop extends TxX fa fn es xs gs file K mg where
  so : (sp.all fun d => d.ok K file) = true
  sv : (sp.map fun d => fnY K d.cls) = sp.map SpD.val
section
variable {fa : List He.Fa} {fn : List He.DefD} {es : List (PySem.W.Frag → Bool)} {xs : List XcD} {gs : List GeD} {sp : List SpD} {file : Str} {K : PySem.W.Frag} {mg : Str → Option Value}
end
end Sim

/-! askers: calls that read the lent list and may raise; loops over a lent list that an expression gives -/
namespace Sim
open PySem L2 Evl
section
variable {K : PySem.W.Frag} {C : Addr} {σ : L2.St} {G0 H0 G H G2 H2 W : Hp} {ls : List Addr} {cs : Cs} {l : Addr} {ta : TA} {X : XK} {te to tl : TE} {α β κ ι γ : Type} {R : Rep α} {S : Rep β} {T : Rep γ} {B : Rep κ} {A : AR ι} {D : Ends} {tz tu : TS} {g : TG} {ns : List Str} {fl : α → List Pd}
/-! ### tests, opened -/
end
end Sim

/-! askers handed to defs; parts of mixed data -/
namespace Sim
open PySem L2 Evl
section
variable {K : PySem.W.Frag} {C : Addr} {σ : L2.St} {G0 H0 G H G2 H2 W : Hp} {ls : List Addr} {cs : Cs} {l : Addr} {ta : TA} {X : XK} {te to tl : TE} {α β κ ι γ : Type} {R : Rep α} {S : Rep β} {T : Rep γ} {B : Rep κ} {A : AR ι} {D : Ends} {tz tu : TS}
/-! mixed data -/
end
/-- facts of the text: one def under two classes; a def's record is a function's -/
def eqmB (C D m : Str) (K : PySem.W.Frag) : Bool := decide (He.ma K (He.ga K C) m = He.ma K (He.ga K D) m)
def fnmB (C m : Str) (K : PySem.W.Frag) : Bool := PySem.W.fnIn K (He.ma K (He.ga K C) m)
end Sim

/-! a field written again -/
namespace Sim
open PySem L2 Evl
section
variable {K : PySem.W.Frag} {C : Addr} {σ : L2.St} {G0 H0 G H : Hp} {ls : List Addr} {cs : Cs} {l : Addr} {te : TE} {β : Type} {S : Rep β} {D : Ends} {tz : TS} {ns : List Str}
end
end Sim

/-! cells of any kind, lent to a def that only reads them -/
namespace Sim
open PySem L2 Evl
section
variable {σ : L2.St} {G0 H0 G H G1 H1 W : Hp} {ls : List Addr} {cs : Cs} {l : Addr} {cp0 : CP} {te : TE} {α β : Type} {R : Rep α} {S : Rep β} {cp : β → CP}
structure LentP (G W : Hp) (l : Addr) (cp : CP) : Prop where
  n : G l = none
  at_ : ∃ o, W l = some o ∧ cp.p G o
theorem LentP.up (L : LentP G W l cp0) (e' : Ex W H) (u : Up G H G1 H1) : LentP G1 H1 l cp0 := by
  obtain ⟨o, h2, h3⟩ := L.at_
  exact ⟨u.nw _ (by rw [e' _ _ h2]; simp) L.n, o, u.hh _ _ (e' _ _ h2), cp0.mono u.gg h3⟩
variable {K : PySem.W.Frag} {C : Addr} {ta : TA} {X : XK} {κ ι δ γ : Type} {A : AR ι} {B : Rep κ} {D : Ends} {tz : TS} {ns : List Str}
/-! dict(d), d a dict -/
end
end Sim

/-! TableAsker: an __init__ with a default; arguments read at the heap itself -/
namespace Sim
open PySem PySem.Spec PyProof.Rows L2 Evl
section
variable {K : PySem.W.Frag} {C : Addr} {σ : L2.St} {G0 H0 G H G2 H2 W : Hp} {ls : List Addr} {cs : Cs} {l : Addr} {ta tb tc : TE} {td : TE} {X : XK} {α β δ κ ι : Type} {R : Rep ι} {S : Rep β} {S2 : Rep δ} {B : Rep κ} {D : Ends} {tz : TS} {ns : List Str}
theorem EC.s {κ : Type} [DecidableEq κ] {kf : κ → Key} {R : Rep α} {m : Option (List (κ × α))} (sc : R.Sc) (e : Ex G W) (h : EC ta σ W W (cM kf R) m) : EC ta σ G W (cM kf R) m := fun x hx H e1 e2 Q q =>
  h x hx H e2 e2 Q fun p H2 G2 np u w => by
    have up : Up G H G H2 := Up.same e1 u.hh
    refine q p H2 G np up ⟨up.gh, fun c hc => ?_, w.nd⟩
    obtain ⟨h1, o, h2, ws, rfl, h4⟩ := w.at_ c hc |> fun z => by
      rw [List.mem_singleton.mp hc] at z
      exact z
    rw [List.mem_singleton.mp hc]
    refine ⟨?_, _, h2, ws, rfl, Paired.mapP h4 fun _ _ q => ⟨q.1, sc q.2⟩⟩
    cases qz : G p with
    | none => rfl
    | some o => rw [e1 p o qz] at np; cases np
end
end Sim

/-! a comprehension whose test changes cells -/
namespace Sim
open PySem L2 Evl
section
variable {K : PySem.W.Frag} {σ : L2.St} {G0 H0 G H : Hp} {ls : List Addr} {cs : Cs} {tl te : TE} {tt : TT} {α γ : Type} {R : Rep α} {T : Rep γ} {D : Ends} {tz : TS}
end
end Sim
namespace Sim
open PySem L2 Evl
section
variable {K : PySem.W.Frag} {σ : L2.St} {G0 H0 G H : Hp} {ls : List Addr} {cs : Cs} {l : Addr} {α κ : Type} [DecidableEq κ] {kf : κ → Key} {R : Rep α} {Q : VK}
end
end Sim

/-! functions made by a lambda; their captured cells laid in the heap as known things -/
namespace LamF
open PySem PySem.Spec PyProof.Rows L2 LamX NdefX
/-- a cell, known as it stands -/
def CelO (o : Obj) : HO := .frz o (.ext fun _ => True)
def unlayH (cs : List (Addr × Obj)) (H : Hp) : Hp := fun a => match cs.lookup a with
  | some _ => none
  | none => H a
section
variable {cs : List (Addr × Obj)} {H H' H0 : Hp} {a : Addr} {o : Obj}
end
section
variable {P : Program} {w : World} {cs : List (Addr × Obj)} {H H' H0 H1 : Hp} {h h' B : Heap} {fs : List Addr}
end
section
variable {P : Program} {w : World} {CX : CXT} {outer : List Env} {H : Hp} {s s' : Shared} {Q : VK} {E : XK} {cs : List (Addr × Obj)}
end
end LamF

/-! lambdas: made, called, handed over -/
namespace LamF
open PySem PySem.Spec PyProof.Rows L2 LamX NdefX
/-- a function that a lambda made -/
structure LF where
  qual : Str
  params : Arguments
  body : Expr
  scope : Scope
  cl : List (Str × Addr)
  c : Addr
abbrev LF.obj (F : LF) (pm ctv : Value) : Obj := PySem.W.kla_obj "<lambda>" F.qual F.params F.body F.scope F.cl pm F.c ctv
def FnL (f : Addr) (F : LF) : HO := .ext fun h => ∃ pm ctv, h.get? f = some (F.obj pm ctv)
/-- the table's codes bear this name -/
structure Cds (H : Hp) (q : Str) (ps : Array Value) : Prop where
  ok : TriplesOk ps.toList
  cd : ∀ (pos : Pos) (cv : Value), codeAmong pos ps.toList = some cv → ∃ c, cv = .ref c ∧ H c = some (CodeO c q)
section
variable {X : Cx} {pins : List (Addr × Obj)} {σ : L2.St} {H : Hp} {s : Shared}
end
/-! ### a call with the own cells of these names laid -/
section
variable {X : Cx} {pins : List (Addr × Obj)} {σ : L2.St} {H : Hp} {s : Shared} {fr : List Str}
theorem mem_look {α β : Type} [BEq α] [LawfulBEq α] : ∀ {l : List (α × β)} {a : α} {b : β}, l.lookup a = some b → (a, b) ∈ l
  | [], _, _, h => by cases h
  | (x, y) :: l, a, b, h => by
    rw [List.lookup_cons] at h
    cases e : a == x with
    | true =>
      rw [e] at h
      cases h
      rw [eq_of_beq e]
      exact List.mem_cons_self ..
    | false => rw [e] at h; exact List.mem_cons_of_mem _ (mem_look h)
theorem look_mem {α β : Type} [BEq α] [LawfulBEq α] : ∀ {l : List (α × β)} {a : α} {b : β}, (a, b) ∈ l → ∃ b', l.lookup a = some b'
  | (x, y) :: l, a, b, h => by
    rw [List.lookup_cons]
    cases e : a == x with
    | true => exact ⟨y, rfl⟩
    | false =>
      rcases List.mem_cons.mp h with z | z
      · cases z
        rw [beq_self_eq_true] at e
        cases e
      · exact look_mem z
end
section
variable {X : Cx} {pins : List (Addr × Obj)} {σ : L2.St} {H : Hp} {s : Shared} {fr : List Str} {cs : List (Addr × Obj)}
end
section
variable {X : Cx} {CX : CXT} {k : Nat} {f : Addr} {fd : FuncData} {ps : List Str} {sp : Sp} {E : L2.St → XK} {x : Str} {p pos : Pos} {e : Expr} {es : List Expr} {t : TA} {fr : List Str}
end
end LamF

/-! functions made by a lambda: called; handed back by a def -/
namespace LamF
open PySem PySem.Spec PyProof.Rows L2 LamX NdefX
/-- the function F stands at f, its captured names fr hold us -/
structure Clos (H : Hp) (f : Addr) (F : LF) (fr : List Str) (us : List V) : Prop where
  at_ : H f = some (FnL f F)
  co : H F.c = some (CodeO F.c F.qual)
  ce : ∀ (i : Nat) (y : Str), fr[i]? = some y → ∃ c o u v, F.cl.lookup y = some c ∧ H c = some (CelO o) ∧ o.data = .cell (some u) ∧ us[i]? = some v ∧ RelV v u
  only : ∀ y c, F.cl.lookup y = some c → y ∈ fr
  inj : ∀ x y c, F.cl.lookup x = some c → F.cl.lookup y = some c → x = y
  ln : us.length = fr.length
theorem Clos.ex {H H' : Hp} {f : Addr} {F : LF} {fr : List Str} {us : List V} (c : Clos H f F fr us) (e : ∀ a o, H a = some o → H' a = some o) : Clos H' f F fr us :=
  ⟨e _ _ c.at_, e _ _ c.co, fun i y h => let ⟨a, o, u, v, h1, h2, h3⟩ := c.ce i y h; ⟨a, o, u, v, h1, e _ _ h2, h3⟩, c.only, c.inj, c.ln⟩
/-- its cells as they stand -/
def celsH (F : LF) (fr : List Str) (H : Hp) : List (Addr × Obj) := fr.filterMap fun y => F.cl.lookup y >>= fun c => match H c with
  | some (.frz o _) => some (c, o)
  | _ => none
section
variable {H : Hp} {f : Addr} {F : LF} {fr : List Str} {us : List V}
theorem Clos.mem (C : Clos H f F fr us) {c : Addr} {o : Obj} (e : (celsH F fr H).lookup c = some o) : H c = some (CelO o) ∧ ∃ (i : Nat) (y : Str), fr[i]? = some y ∧ F.cl.lookup y = some c := by
  obtain ⟨y, hy, e⟩ := List.mem_filterMap.mp (mem_look e)
  obtain ⟨i, hi⟩ := List.getElem?_of_mem hy
  obtain ⟨c1, o1, u, v, h1, h2, h3⟩ := C.ce i y hi
  rw [h1] at e
  simp only [Option.bind_eq_bind, Option.bind_some] at e
  rw [h2] at e
  cases e
  exact ⟨h2, i, y, hi, h1⟩
theorem Clos.look (C : Clos H f F fr us) {i : Nat} {y : Str} {c : Addr} {o : Obj} (hi : fr[i]? = some y) (h1 : F.cl.lookup y = some c) (h2 : H c = some (CelO o)) : (celsH F fr H).lookup c = some o := by
  have : (c, o) ∈ celsH F fr H := List.mem_filterMap.mpr ⟨y, List.mem_of_getElem? hi, by
    rw [h1]
    simp only [Option.bind_eq_bind, Option.bind_some]
    rw [h2]
    rfl⟩
  obtain ⟨o', e⟩ := look_mem this
  have := (C.mem e).1
  rw [h2] at this
  cases this
  exact e
end
/-- a thing that can be called: what its call promises -/
def CalOk (P : Program) (w : World) (K : PySem.W.Frag) (mg : Str → Option Value) (base : Heap) (CX : CXT) (k : Nat) (f : Addr) (sp : Sp) : Prop :=
  ∀ (A : Around) (outer : List Env) (s : Shared) (H : Hp) (us : List Value) (vs : List V) (Q : VK) (E : XK), Room k A → Env0 P w K mg base A outer s H → Vals vs us → sp vs H Q E → codeAny (model P w) A (.call (.ref f) ⟨us, []⟩) (CR CX outer P w H s Q E) s
theorem CalOk.mono {P : Program} {w : World} {K : PySem.W.Frag} {mg : Str → Option Value} {base : Heap} {CX : CXT} {j k : Nat} {f : Addr} {sp : Sp} (h : CalOk P w K mg base CX j f sp) (hjk : j ≤ k) : CalOk P w K mg base CX k f sp :=
  fun A outer s H us vs Q E hr => h A outer s H us vs Q E (hr.mono hjk)
theorem CalOk.imp {P : Program} {w : World} {K : PySem.W.Frag} {mg : Str → Option Value} {base : Heap} {CX : CXT} {k : Nat} {f : Addr} {sp sp' : Sp} (h : CalOk P w K mg base CX k f sp) (i : ∀ vs H Q E, sp' vs H Q E → sp vs H Q E) : CalOk P w K mg base CX k f sp' :=
  fun A outer s H us vs Q E hr e0 r q => h A outer s H us vs Q E hr e0 r (i _ _ _ _ q)
section
variable {CX : CXT} {P : Program} {w : World} {K : PySem.W.Frag} {mg : Str → Option Value} {base : Heap} {N ps fr psg : List Str} {F : LF} {f g : Addr} {fdg : FuncData} {k : Nat} {spg : Sp} {x : Str} {e : Expr} {es : List Expr} {p0 pos : Pos} {js : List Nat} {us : List V}
end
/-! ### x(..), x a local name that holds something that can be called -/
/-- an instance, or a function that a lambda made -/
def Cb (H : Hp) (f : Addr) : Prop := (∃ F, H f = some (FnL f F)) ∨ ∃ C dx fs, H f = some (.ins C dx fs)
/-- it stands as before -/
def Cb2 (H H1 : Hp) (f : Addr) : Prop := (∀ F, H f = some (FnL f F) → H1 f = some (FnL f F)) ∧ ∀ C dx fs, H f = some (.ins C dx fs) → ∃ gs, H1 f = some (.ins C dx gs)
theorem Cb2.of {H H1 : Hp} {f : Addr} (e : ∀ o, H f = some o → H1 f = some o) : Cb2 H H1 f := ⟨fun F h => e _ h, fun C dx fs h => ⟨fs, e _ h⟩⟩
section
variable {X : Cx} {CX : CXT} {k i : Nat} {E : L2.St → XK} {x : Str} {p pos : Pos} {e : Expr} {es : List Expr} {t : TA}
end
end LamF

/-! a def that hands back a lambda; defs whose code object is told -/
namespace LamF
open PySem PySem.Spec PyProof.Rows L2 LamX NdefX
/-- the code object of the def at f, its table -/
def codOf (K : PySem.W.Frag) (f : Addr) : Addr := match K.lookup f with
  | some ⟨_, _, .func fd, _⟩ => (match fd.code with
    | .ref c => c
    | _ => 0)
  | _ => 0
def tabOf (K : PySem.W.Frag) (f : Addr) : Addr := match K.lookup (codOf K f) with
  | some ⟨_, _, .fields vs, _⟩ => (match (vs[11]? : Option Value) with
    | some (.ref P) => P
    | _ => 0)
  | _ => 0
section
variable {P : Program} {w : World} {K : PySem.W.Frag} {mg : Str → Option Value} {base : Heap} {x qual : Str} {params : Arguments} {body : List Stmt} {scope : Scope} {f : Addr} {fd : FuncData} {CX : CXT} {N ps : List Str} {k : Nat} {sp : Sp}
end
end LamF

/-! things that are asked: functions and objects called with a name; what they change is a state -/
namespace Sim
open PySem PySem.Spec PyProof.Rows L2 Evl LamX LamF NdefX
theorem Cds.mono {G G' : Hp} {q : Str} {ps : Array Value} (e : Ex G G') (c : Cds G q ps) : Cds G' q ps := ⟨c.ok, fun p cv h => let ⟨a, h1, h2⟩ := c.cd p cv h; ⟨a, h1, e _ _ h2⟩⟩
/-- the table of a def's code object, as a cell -/
def cTab (q : Str) : CP := ⟨fun G o => ∃ ps, o = .tbl ps ∧ Cds G q ps, fun e ⟨ps, h1, h2⟩ => ⟨ps, h1, Cds.mono e h2⟩⟩
/-! ### asked -/
section
variable (P : Program) (w : World) (K : PySem.W.Frag) (mg : Str → Option Value) (base : Heap) (k : Nat)
/-- what asking promises: never raises / may raise -/
def PAsk {κ : Type} (ci : κ → Cs) (ask : κ → Str → Option (Int × κ)) (G0 : Hp) : Sp := fun vs H Q _ => ∃ G s nm x s', vs = [.str nm] ∧ Ex G0 G ∧ Wd G H (ci s) ∧ ask s nm = some (x, s') ∧ ∀ H2 G2, Fr G H G2 H2 ((ci s).map (·.1)) → Wd G2 H2 (ci s') → Q (.int x) H2
def PAskX {κ : Type} (ci : κ → Cs) (ask : κ → Str → Option ((Xn ⊕ Int) × κ)) (G0 : Hp) : Sp := fun vs H Q E => ∃ G s nm r s', vs = [.str nm] ∧ Ex G0 G ∧ Wd G H (ci s) ∧ ask s nm = some (r, s') ∧
  (∀ e, r = .inl e → ∀ d H2 G2, Fr G H G2 H2 ((ci s).map (·.1)) → Wd G2 H2 (ci s') → Xat G2 e d → E (.ref (He.ga K e.cls)) (some d) H2) ∧ ∀ x, r = .inr x → ∀ H2 G2, Fr G H G2 H2 ((ci s).map (·.1)) → Wd G2 H2 (ci s') → Q (.int x) H2
structure AskP {κ : Type} (G : Hp) (f : Addr) (ci : κ → Cs) (ask : κ → Str → Option (Int × κ)) : Prop where
  cb : Cb G f
  ok : CalOk P w K mg base CX0 k f (PAsk ci ask G)
  fx : ∀ s s', (ci s).map (·.1) = (ci s').map (·.1)
structure AskX {κ : Type} (G : Hp) (f : Addr) (ci : κ → Cs) (ask : κ → Str → Option ((Xn ⊕ Int) × κ)) : Prop where
  cb : Cb G f
  ok : CalOk P w K mg base (L2.CX P w) k f (PAskX K ci ask G)
  fx : ∀ s s', (ci s).map (·.1) = (ci s').map (·.1)
end
section
variable {P : Program} {w : World} {K : PySem.W.Frag} {mg : Str → Option Value} {base : Heap} {k kk : Nat} {κ : Type} {ci : κ → Cs}
theorem cb_mono {G G' : Hp} {f : Addr} (e : Ex G G') (c : Cb G f) : Cb G' f := c.elim (fun ⟨F, h⟩ => .inl ⟨F, e _ _ h⟩) fun ⟨C, dx, fs, h⟩ => .inr ⟨C, dx, fs, e _ _ h⟩
theorem AskP.mono {ask : κ → Str → Option (Int × κ)} {G G' : Hp} {f : Addr} (e : Ex G G') (a : AskP P w K mg base k G f ci ask) : AskP P w K mg base k G' f ci ask :=
  ⟨cb_mono e a.cb, a.ok.imp fun vs H Q E ⟨G2, s, nm, x, s', h1, h2, h3⟩ => ⟨G2, s, nm, x, s', h1, e.trans h2, h3⟩, a.fx⟩
theorem AskX.mono {ask : κ → Str → Option ((Xn ⊕ Int) × κ)} {G G' : Hp} {f : Addr} (e : Ex G G') (a : AskX P w K mg base k G f ci ask) : AskX P w K mg base k G' f ci ask :=
  ⟨cb_mono e a.cb, a.ok.imp fun vs H Q E ⟨G2, s, nm, x, s', h1, h2, h3⟩ => ⟨G2, s, nm, x, s', h1, e.trans h2, h3⟩, a.fx⟩
variable {G0 H0 G H G2 H2 : Hp} {ls : List Addr} {cs : Cs} {f : Addr} {X : Cx} {σ : L2.St} {i : Nat} {CX : CXT}
end
/-! ### defs that ask -/
section
variable (P : Program) (w : World) (K : PySem.W.Frag) (mg : Str → Option Value) (base : Heap) (k : Nat)
end
/-! ### a function made by a lambda and handed over at once -/
/-- a list cell's content -/
def DnC (cp : CP) : Prop := ∀ {G : Hp} {cs : List (Addr × Obj)} {o : HO}, (∀ c o, cs.lookup c = some o → G c = some (CelO o)) → cp.p G o → cp.p (unlayH cs G) o
section
variable {G0 H0 G H G2 H2 : Hp} {ls : List Addr} {cs : Cs} {cels : List (Addr × Obj)}
end
/-- the data heap behind the making of a function -/
def lamG (G H H1 : Hp) : Hp := fun a => match H a with
  | none => H1 a
  | some _ => G a
section
variable {G0 H0 G H H1 : Hp} {ls : List Addr} {cs : Cs} {Pt fl : Addr} {F : LF} {ps0 ps : Array Value} {j : Nat} {q : Str}
theorem lamG_new {a : Addr} (h : H a = none) : lamG G H H1 a = H1 a := by unfold lamG; rw [h]
theorem lamG_old {a : Addr} {o : HO} (h : H a = some o) : lamG G H H1 a = G a := by unfold lamG; rw [h]
/-- the cells behind the making of a function: the table is written -/
theorem Wo.made (w : Wo G0 H0 ls G H cs) (hc : cs[j]? = some (Pt, cTab q)) (ex : ∀ b o, b ≠ Pt → H b = some o → H1 b = some o) (tb : H1 Pt = some (.tbl ps)) (cd : Cds (lamG G H H1) q ps) : Wo G0 H0 ls (lamG G H H1) H1 cs ∧ Ex G (lamG G H H1) := by
  obtain ⟨gP, oP, hP, _⟩ := w.w.getAt hc
  have eG : Ex G (lamG G H H1) := fun a o h => by
    rw [lamG_old (w.ex a o h)]
    exact h
  have e1 : Ex (lamG G H H1) H1 := fun a o h => by
    cases z : H a with
    | none => rw [lamG_new z] at h; exact h
    | some o2 =>
      rw [lamG_old z] at h
      have h2 := w.ex a o h
      exact ex a o (fun e => by rw [e, gP] at h; cases h) h2
  refine ⟨⟨⟨e1, fun c hm => ?_, w.w.nd⟩, ⟨w.f.gg.trans eG, fun a o h1 h2 => ?_, fun a h1 h2 => ?_, fun a h => ?_⟩, w.lo⟩, eG⟩
  · obtain ⟨h1, o, h2, h3⟩ := w.w.at_ c hm
    refine ⟨by rw [lamG_old h2]; exact h1, ?_⟩
    by_cases e : c.1 = Pt
    · have hcc : c = (Pt, cTab q) := by
        obtain ⟨i, hi⟩ := List.getElem?_of_mem hm
        have a1 : (cs.map (·.1))[i]? = some Pt := by rw [List.getElem?_map, hi, ← e]; rfl
        have a2 : (cs.map (·.1))[j]? = some Pt := by rw [List.getElem?_map, hc]; rfl
        have := nodup_ix w.w.nd a1 a2
        subst this
        rw [hi] at hc
        exact Option.some.inj hc
      rw [hcc]
      exact ⟨_, tb, ps, rfl, cd⟩
    · exact ⟨o, ex _ _ e h2, c.2.mono eG h3⟩
  · refine ex a o (fun e => ?_) (w.f.fr a o h1 h2)
    have hm : (Pt, cTab q) ∈ cs := List.mem_of_getElem? hc
    rcases w.lo _ hm with z | z
    · exact h2 (by rw [e]; exact z)
    · rw [e] at h1
      rw [show H0 Pt = none from z] at h1
      cases h1
  · have h3 := w.f.nw a h1 h2
    have h4 := w.f.st a h1
    cases z : H a with
    | none => exact absurd z h4
    | some o => rw [lamG_old z]; exact h3
  · have h4 := w.f.st a h
    cases z : H a with
    | none => exact absurd z h4
    | some o =>
      by_cases e : a = Pt
      · rw [e, tb]; simp
      · rw [ex a o e z]; simp
end
end Sim

/-! x = f(.., lambda ..): the function asks a list of the def's own -/
namespace Sim
open PySem PySem.Spec PyProof.Rows L2 Evl LamX LamF NdefX
section
variable {X : Cx} {kk : Nat} {σ : L2.St} {G0 H0 G H : Hp} {ls : List Addr} {cs : Cs} {ta : TA} {ι α γ : Type} {A : AR ι} {R : Rep γ} {Ra : Rep α} {D : Ends} {tz : TS}
end
end Sim

/-! calls that change cells at any places; the tail of the cells; lambdas handed over, printed by gen.py -/
namespace Sim
open PySem PySem.Spec PyProof.Rows L2 Evl LamX LamF NdefX
section
variable {σ : L2.St} {G0 H0 G H G2 H2 : Hp} {ls : List Addr} {cs : Cs}
/-! ### the tail -/
variable {P : Program} {w : World} {K : PySem.W.Frag} {mg : Str → Option Value} {base : Heap} {k : Nat} {κ : Type} {ci : κ → Cs} {f : Addr}
/-- where the captured names stand -/
def FrAt (X : Cx) (σ : L2.St) : List Str → List V → Prop
  | [], [] => True
  | y :: fr, u :: us => (∃ jx : Nat, X.N[jx]? = some y ∧ σ[jx]? = some (some u) ∧ Vis X.env.scope y) ∧ FrAt X σ fr us
  | _, _ => False
theorem FrAt.at_ {X : Cx} : ∀ {fr : List Str} {us : List V}, FrAt X σ fr us → ∀ (n : Nat) (y : Str), fr[n]? = some y → ∃ (jx : Nat) (v : V), X.N[jx]? = some y ∧ σ[jx]? = some (some v) ∧ Vis X.env.scope y ∧ us[n]? = some v
  | [], [], _, n, y, h => by cases h
  | _ :: _, _ :: _, ⟨⟨jx, h1, h2, h3⟩, _⟩, 0, y, h => by cases h; exact ⟨jx, _, h1, h2, h3, rfl⟩
  | _ :: _, _ :: _, ⟨_, hr⟩, n + 1, y, h => FrAt.at_ hr n y h
theorem FrAt.len {X : Cx} : ∀ {fr : List Str} {us : List V}, FrAt X σ fr us → us.length = fr.length
  | [], [], _ => rfl
  | _ :: _, _ :: _, ⟨_, h⟩ => congrArg (· + 1) (FrAt.len h)
end
end Sim

/-! the hook with tables of code objects; the law's end with tables -/
namespace Sim
open PySem PySem.Spec PyProof.Rows L2 Evl LamX LamF NdefX
/-- a def with lambdas: its code object, its table, the lambda's qualified name -/
structure TbD where
  at_ : Str × Option Str
  q : Str
def TbD.c (K : PySem.W.Frag) (d : TbD) : Addr × Addr := (codOf K (He.fAd K d.at_), tabOf K (He.fAd K d.at_))
def TbD.cel (K : PySem.W.Frag) (d : TbD) : Addr × CP := (tabOf K (He.fAd K d.at_), cTab d.q)
def tbB (g : Addr → Option Obj) (tf : List TbD) (K : PySem.W.Frag) : Bool := (tf.all fun p => PySem.W.codeHdIn K (p.c K).1 (p.c K).2 && (match g (p.c K).2 with
  | some o => He.emptyTab o
  | none => false)) && decide ((tf.map fun p => (p.c K).2).Nodup)
abbrev AlT : Type := AlZ × Bool
structure SaysT (fa : List He.Fa) (fn : List He.DefD) (ex : List (PySem.W.Frag → Bool)) (xs : List XcD) (gs : List GeD) (sp : List SpD) (tf : List TbD) (file : Str) (h : Heap) (K : PySem.W.Frag) : Prop where
  s : SaysZ fa fn ex xs gs sp file K
  hd : ∀ p ∈ tf, PySem.W.codeHdIn K (p.c K).1 (p.c K).2 = true
  out : ∀ p ∈ tf, K.lookup (p.c K).2 = none
  nd : (tf.map fun p => (p.c K).2).Nodup
  empty : ∀ p ∈ tf, h.get? (p.c K).2 = some { cls := .none, data := .fields #[] }
end Sim

/-! a for over a list that is a cell and stays as it is; and in a test that changes cells -/
namespace Sim
open PySem L2 Evl
section
variable {K : PySem.W.Frag} {σ : L2.St} {G0 H0 G H G2 H2 : Hp} {ls : List Addr} {cs : Cs} {l : Addr} {cp cp' : CP} {tu tz : TS} {t u : TT} {g : TG} {D : Ends} {α : Type} {R : Rep α}
def DnAll : Cs → Prop
  | [] => True
  | c :: cs => DnC c.2 ∧ DnAll cs
theorem DnAll.at_ : ∀ {cs : Cs}, DnAll cs → ∀ c ∈ cs, DnC c.2
  | _ :: _, ⟨h1, h2⟩, c, h => by
    rcases List.mem_cons.mp h with e | e
    · rw [e]; exact h1
    · exact DnAll.at_ h2 c e
end
end Sim

/-! sides: values that are called with what is asked -/
namespace LamF
open PySem PySem.Spec PyProof.Rows L2 LamX NdefX
section
variable {X : Cx} {CX : CXT} {k : Nat} {pins : List (Addr × Obj)} {σ : L2.St} {H : Hp} {s : Shared} {a C dx : Addr} {fs : List (Str × V)} {v : V} {A : Around} {E : Value → Shared → Prop}
/-- what can be called: an instance, a function of a lambda, a def -/
def Cbk (K : PySem.W.Frag) (H : Hp) (f : Addr) : Prop := Cb H f ∨ PySem.W.keepIn K (.ref f) = true
end
end LamF
namespace Sim
open PySem PySem.Spec PyProof.Rows L2 Evl LamX LamF NdefX
/-! ### an object with an attribute -/
def rAt {β : Type} (K : PySem.W.Frag) (S : Rep β) (f : Str) : Rep β := ⟨fun G v x => ∃ a C dx fs u, v = .ref a ∧ G a = some (.ins C dx fs) ∧ Cls K C ∧ NoAttr K C f ∧ fs.lookup f = some u ∧ S.r G u x,
  fun e ⟨a, C, dx, fs, u, h1, h2, h3, h4, h5, h6⟩ => ⟨a, C, dx, fs, u, h1, e _ _ h2, h3, h4, h5, S.mono e h6⟩⟩
theorem cbk_mono {K : PySem.W.Frag} {G G2 : Hp} {f : Addr} (e : Ex G G2) (h : Cbk K G f) : Cbk K G2 f := h.elim (fun z => .inl (cb_mono e z)) .inr
/-! ### sides -/
section
variable (P : Program) (w : World) (K : PySem.W.Frag) (mg : Str → Option Value) (base : Heap) (j : Nat)
/-- what calling a side with the thing asked promises; o: the order of the thing asked -/
def PSd {ω : Type} (rO : Rep ω) (sem : ∀ {κ : Type}, (κ → Str → Option ((Xn ⊕ Int) × κ)) → ω → κ → Option ((Xn ⊕ Int) × κ)) (G0 : Hp) : Sp := fun vs H Q E => ∃ (κ : Type) (ci : κ → Cs) (ask : κ → Str → Option ((Xn ⊕ Int) × κ)) (G : Hp) (fk : Addr) (o : ω) (s : κ) (r : Xn ⊕ Int) (s' : κ),
  vs = [.ref fk] ∧ Ex G0 G ∧ (rAt K rO "order").r G (.ref fk) o ∧ AskX P w K mg base j G fk ci ask ∧ Wd G H (ci s) ∧ sem ask o s = some (r, s') ∧
  (∀ e, r = .inl e → ∀ d H2 G2, Fr G H G2 H2 ((ci s).map (·.1)) → Wd G2 H2 (ci s') → Xat G2 e d → E (.ref (He.ga K e.cls)) (some d) H2) ∧ ∀ x, r = .inr x → ∀ H2 G2, Fr G H G2 H2 ((ci s).map (·.1)) → Wd G2 H2 (ci s') → Q (.int x) H2
structure SideOk {ω : Type} (rO : Rep ω) (k : Nat) (G : Hp) (f : Addr) (sem : ∀ {κ : Type}, (κ → Str → Option ((Xn ⊕ Int) × κ)) → ω → κ → Option ((Xn ⊕ Int) × κ)) : Prop where
  cb : Cbk K G f
  ok : CalOk P w K mg base (L2.CX P w) k f (PSd P w K mg base j rO (fun a => sem a) G)
end
section
variable {P : Program} {w : World} {K : PySem.W.Frag} {mg : Str → Option Value} {base : Heap} {j k kk : Nat} {κ ω : Type} {ci : κ → Cs} {G0 H0 G H G2 H2 : Hp} {ls : List Addr} {cs : Cs} {f fk : Addr} {rO : Rep ω} {σ : L2.St}
variable {sem : ∀ {κ : Type}, (κ → Str → Option ((Xn ⊕ Int) × κ)) → ω → κ → Option ((Xn ⊕ Int) × κ)}
theorem SideOk.mono (e : Ex G G2) (h : SideOk P w K mg base j rO k G f (fun a => sem a)) : SideOk P w K mg base j rO k G2 f (fun a => sem a) :=
  ⟨cbk_mono e h.cb, h.ok.imp fun vs H Q E ⟨κ, ci, ask, G, fk, o, s, r, s', a1, a2, a3⟩ => ⟨κ, ci, ask, G, fk, o, s, r, s', a1, e.trans a2, a3⟩⟩
end
end Sim

/-! what sides are: objects, lambdas, defs; things that are asked: objects, lambdas -/
namespace Sim
open PySem PySem.Spec PyProof.Rows L2 Evl LamX LamF NdefX
section
variable {P : Program} {w : World} {K : PySem.W.Frag} {mg : Str → Option Value} {base : Heap} {j k kk : Nat} {κ ω : Type} {ci : κ → Cs} {G0 H0 G H G2 H2 : Hp} {ls : List Addr} {cs : Cs} {f fk a C f0 : Addr} {rO : Rep ω} {σ : L2.St} {fd : FuncData} {ps : List Str}
end
section
variable {X : Cx} {kk : Nat} {σ : L2.St} {G0 H0 G H : Hp} {ls : List Addr} {cs : Cs} {ta : TA} {ι α γ : Type} {A : AR ι} {R : Rep γ} {Ra : Rep α} {D : Ends} {tz : TS}
end
end Sim

/-! methods whose arguments change cells; a call that hands on what is asked and may raise -/
namespace Sim
open PySem PySem.Spec PyProof.Rows L2 Evl LamX LamF NdefX
section
variable {P : Program} {w : World} {K : PySem.W.Frag} {mg : Str → Option Value} {base : Heap} {j k kk : Nat} {κ ω α β : Type} {ci : κ → Cs} {G0 H0 G H G2 H2 W : Hp} {ls : List Addr} {cs : Cs} {f fk a C f0 : Addr} {rO : Rep ω} {σ : L2.St} {fd : FuncData} {ps ns : List Str} {to : TE} {ta : TA}
end
end Sim

/-! a | b of two own classes with the same method -/
namespace PySem.W
open PySem PySem.Spec PyProof.Rows PySem.Calls
variable {prog : Program} {w : World} {A : Around} {E : Value → Shared → Prop} {s : Shared} {K : Frag} {x C D L f g : Addr} {h₀ : Heap} {m : Str → Option Value} {ox : Obj} {od : Option Obj}
end PySem.W
namespace L2
open PySem PySem.Spec PyProof.Rows
section
variable {X : Cx} {CX : CXT} {k : Nat} {f C : Addr} {fd : FuncData} {ps : List Str} {sp : Sp} {pins : List (Addr × Obj)} {σ : St} {H : Hp} {s : Shared} {ta tb : TE}
end
end L2
namespace Sim
open PySem PySem.Spec PyProof.Rows L2 Evl LamX LamF NdefX
def opsB (cn : List Str) (nm : String) (D : Str) (K : PySem.W.Frag) : Bool :=
  (cn.all fun c => PySem.W.selfFirst K (He.ga K c) && (decide (PySem.W.findIn K (.ref (He.ga K c)) (PySem.dunder nm) = some (some (.ref (He.ma K (He.ga K D) (PySem.dunder nm))))) && decide (PySem.W.findIn K (.ref (He.ga K c)) (dunderR nm) = some none))) &&
  (PySem.W.isFn K (.ref (He.ma K (He.ga K D) (PySem.dunder nm))) && cn.all fun c => cn.all fun d => decide (He.ga K c = He.ga K d) || decide (PySem.W.subIn K (.ref (He.ga K d)) (.ref (He.ga K c)) = some false))
end Sim

/-! reversed; values that are an int or a text -/
namespace Sim
open PySem PySem.Spec PyProof.Rows L2 Evl
section
variable {K : PySem.W.Frag} {σ : L2.St} {G0 H0 G H G2 H2 W : Hp} {ls : List Addr} {cs : Cs} {ta : TA} {te : TE} {α β : Type} {R : Rep α} {D : Ends} {tu tz : TS} {g : TG}
end
end Sim

/-! a def that hands back a lambda: its function, told of the data heap -/
namespace Sim
open PySem PySem.Spec PyProof.Rows L2 Evl LamX LamF NdefX
section
variable {P : Program} {w : World} {K : PySem.W.Frag} {mg : Str → Option Value} {base : Heap} {CX : CXT} {k j : Nat} {f Pt : Addr} {fd : FuncData} {ps fr : List Str} {q : Str} {lp : Arguments} {lb : Expr} {lsc : Scope} {ws : List V → List V} {tb : Cs}
end
end Sim

/-! askers asked where nothing is raised; their cell at any place -/
namespace Sim
open PySem PySem.Spec PyProof.Rows L2 Evl LamX LamF NdefX
section
variable {P : Program} {w : World} {K : PySem.W.Frag} {mg : Str → Option Value} {base : Heap} {k : Nat} {κ : Type} {ci : κ → Cs} {G0 H0 G H G2 H2 Gq Hq : Hp} {ls : List Addr} {cs csq : Cs} {fk : Addr} {σ : L2.St}
end
end Sim

/-! a lambda whose body asks its own parameter -/
namespace LamF
open PySem PySem.Spec PyProof.Rows L2 LamX NdefX
section
variable {CX : CXT} {P : Program} {w : World} {K : PySem.W.Frag} {mg : Str → Option Value} {base : Heap} {N ps fr : List Str} {F : LF} {f : Addr} {k i : Nat} {x : Str} {e : Expr} {es : List Expr} {p pos : Pos} {us : List V}
end
end LamF

/-! what asks in a lambda's body -/
namespace Sim
open PySem PySem.Spec PyProof.Rows L2 Evl LamX LamF NdefX
section
variable {P : Program} {w : World} {K : PySem.W.Frag} {mg : Str → Option Value} {base : Heap} {N ps fr : List Str} {F : LF} {f fk : Addr} {k i jn : Nat} {us : List V} {G G2 H H2 : Hp} {κ : Type} {ci : κ → Cs} {σ : L2.St}
end
end Sim

/-! a def called at the slots, opened; a global name as data -/
namespace Sim
open PySem PySem.Spec PyProof.Rows L2 Evl
section
variable {σ : L2.St} {G W H : Hp} {α : Type} {R : Rep α}
end
section
variable {K : PySem.W.Frag} {C : Addr} {σ : L2.St} {G0 H0 G H : Hp} {ls : List Addr} {cs : Cs} {X : XK} {α β δ κ ι : Type} {R : Rep ι} {S : Rep β} {S2 : Rep δ} {B : Rep κ} {ns : List Str}
end
end Sim

set_option maxHeartbeats 2000000
/-! in: data in a list, own objects in a list; dicts compared; tuples of several parts -/
namespace GQ
open PySem PySem.SeqAt
open AutoSeq1 (wpAny_loadPart')
open MeetsSeq MeetsSeq2 MeetsSeq3 SeqRoads2
section
variable {prog : Program} {w : World} {A : Around} {R : Result → Shared → Prop}
end
section
variable {prog : Program} {w : World} {A : Around} {E : Value → Shared → Prop} {s : Shared}
end
end GQ
namespace L2
open PySem PySem.Spec PyProof.Rows SlX
section
variable {X : Cx} {k : Nat} {f C : Addr} {fd : FuncData} {ps : List Str} {sp : Sp} {pins : List (Addr × Obj)} {σ : St} {H : Hp} {s : Shared}
end
end L2

set_option maxHeartbeats 2000000
/-! the same, told by mirrors -/
namespace L2
open PySem PySem.Spec PyProof.Rows SlX
end L2

set_option maxHeartbeats 2000000
namespace Sim
open PySem PySem.Spec PyProof.Rows L2 Evl SlX
section
variable {K : PySem.W.Frag} {C : Addr} {σ : L2.St} {G0 H0 G H G2 H2 W Gn Wn : Hp} {ls : List Addr} {cs : Cs} {l : Addr} {ta tb tc tl te ti tk : TE} {tt : TT} {α β δ κ ι γ : Type} {R : Rep α} {S : Rep β} {T : Rep γ} {A : AR ι}
/-! ### what a value stands for is one thing -/
/-! ### x in xs of own objects -/
/-! ### x in xs of data -/
/-! ### dicts of whole numbers compared -/
/-! ### tuples of several parts -/
/-! ### an item of a list cell -/
/-! ### {k: v for k in ks} -/
end
end Sim

/-! what a call gives is new: lists of dicts that are cleared later -/
namespace Sim
open PySem PySem.Spec PyProof.Rows L2 Evl
section
variable {K : PySem.W.Frag} {σ : L2.St} {G0 H0 G H G2 H2 W Gw Hw : Hp} {ls : List Addr} {cs cs0 : Cs} {l : Addr} {te : TE} {α β κ γ : Type} {R : Rep α} {S : Rep β} {D : Ends} {tz : TS}
theorem E.ws {m : Option α} (sc : R.Sc) (e : Ex G W) (h : E te σ G W R m) : E te σ W W R m := fun x hx H e1 e2 Q q =>
  h x hx H (e.trans e1) e1 Q fun v H2 G2 u r => q v H2 W ⟨Ex.refl _, e1.trans u.hh, u.hh, fun _ _ z => z⟩ (sc r)
/-- cells that stay as they are -/
def cEq (o : HO) : CP := ⟨fun _ o' => o' = o, fun _ h => h⟩
def Fixed (G : Hp) (cs cs' : Cs) : Prop := Paired (fun (c c' : Addr × CP) => c.1 = c'.1 ∧ ∃ o, c'.2 = cEq o ∧ c.2.p G o) cs cs'
theorem Fixed.map : ∀ {cs cs' : Cs}, Fixed G cs cs' → cs'.map (·.1) = cs.map (·.1)
  | _, _, .nil => rfl
  | _, _, .cons h t => by rw [List.map_cons, List.map_cons, h.1, Fixed.map t]
theorem Fixed.sc {cs cs' : Cs} (F : Fixed G cs cs') : ∀ c ∈ cs', ∀ o, c.2.p G2 o → c.2.p Gw o := by
  induction F with
  | nil => intro c hc; cases hc
  | cons h t ih =>
    intro c hc o ho
    rcases List.mem_cons.mp hc with rfl | hc
    · obtain ⟨_, o2, e, _⟩ := h
      rw [e] at ho ⊢
      exact ho
    · exact ih c hc o ho
end
section
variable {K : PySem.W.Frag} {σ : L2.St} {G0 H0 G H G2 H2 W : Hp} {ls : List Addr} {cs : Cs} {ta : TA} {α ι : Type} {R : Rep α} {A : AR ι}
end
end Sim

set_option maxHeartbeats 2000000
/-! name = {k: v for ..}: the name is set before the block goes -/
namespace L2
open PySem PySem.Spec PyProof.Rows
open PySem.Calls
section
variable {X : Cx}
end
end L2
namespace Sim
open PySem PySem.Spec PyProof.Rows L2 Evl SlX
section
variable {K : PySem.W.Frag} {C : Addr} {α : Type} {R : Rep α}
end
end Sim

/-! the hook over any choice of addresses; addresses reached, found by marks in one number (no dedup of lists) -/
namespace Sim
open PySem PySem.Spec PyProof.Rows L2 Evl LamX LamF NdefX
def obsUG (en : (Addr → Option Obj) → List Addr) (fa : List He.Fa) (fn : List He.DefD) (ex : List (PySem.W.Frag → Bool)) (xs : List XcD) (gs : List GeD) (sp : List SpD) (tf : List TbD) (file : Str) (g : Addr → Option Obj) : AlT :=
  (obsZ fa fn ex xs gs sp file (He.frT g (en g)), tbB g tf (He.frT g (en g)))
theorem saysU_of {as : List Addr} {fa : List He.Fa} {fn : List He.DefD} {ex : List (PySem.W.Frag → Bool)} {xs : List XcD} {gs : List GeD} {sp : List SpD} {tf : List TbD} {file : Str} {h : Heap}
    (e : ((obsZ fa fn ex xs gs sp file (He.frT h.get? as), tbB h.get? tf (He.frT h.get? as)) : AlT) = (((He.valD fn, true, xs.map XcD.val, gs.map GeD.val), true, sp.map SpD.val), true)) : SaysT fa fn ex xs gs sp tf file h (He.frT h.get? as) := by
  have e1 : obsZ fa fn ex xs gs sp file (He.frT h.get? as) = ((He.valD fn, true, xs.map XcD.val, gs.map GeD.val), true, sp.map SpD.val) := congrArg (fun z : AlT => z.1) e
  have e2 : tbB h.get? tf (He.frT h.get? as) = true := congrArg (fun z : AlT => z.2) e
  obtain ⟨h1, h2⟩ := He.ba e2
  have key : ∀ p ∈ tf, PySem.W.codeHdIn (He.frT h.get? as) (p.c (He.frT h.get? as)).1 (p.c (He.frT h.get? as)).2 = true ∧ ∃ o, h.get? (p.c (He.frT h.get? as)).2 = some o ∧ He.emptyTab o = true := fun p hp => by
    obtain ⟨h3, h4⟩ := He.ba (List.all_eq_true.mp h1 p hp)
    refine ⟨h3, ?_⟩
    cases q : h.get? (p.c (He.frT h.get? as)).2 with
    | none => rw [q] at h4; cases h4
    | some o => rw [q] at h4; exact ⟨o, rfl, h4⟩
  exact ⟨⟨⟨congrArg (fun z : AlZ => z.1.1) e1, congrArg (fun z : AlZ => z.1.2.1) e1, congrArg (fun z : AlZ => z.1.2.2.1) e1, congrArg (fun z : AlZ => z.1.2.2.2) e1⟩, congrArg (fun z : AlZ => z.2.1) e1, congrArg (fun z : AlZ => z.2.2) e1⟩, fun p hp => (key p hp).1,
    fun p hp => let ⟨_, o, q, z⟩ := key p hp; He.frT_none q z, of_decide_eq_true h2, fun p hp => by
      obtain ⟨_, o, q, z⟩ := key p hp
      rw [q, He.emptyTab_eq z]⟩
def hookU (en : (Addr → Option Obj) → List Addr) (fa : List He.Fa) (fn : List He.DefD) (ex : List (PySem.W.Frag → Bool)) (xs : List XcD) (gs : List GeD) (sp : List SpD) (tf : List TbD) (file : Str) : PySem.W.Hook where
  α := AlT
  obs := fun s => obsUG en fa fn ex xs gs sp tf file s.heap.get?
  val := fun _ => (((He.valD fn, true, xs.map XcD.val, gs.map GeD.val), true, sp.map SpD.val), true)
  says := fun _ h => ∃ K : PySem.W.Frag, K.In h ∧ SaysT fa fn ex xs gs sp tf file h K
  of := fun _ _ e => ⟨_, He.frT_in, saysU_of e⟩
  keeps := fun _ _ _ ⟨K, hK, c⟩ k => ⟨K, PySem.W.Frag.In.keeps hK k, c.s, c.hd, c.out, c.nd, fun p hp => k _ _ (c.empty p hp)⟩
/-- the addresses not marked yet, marked -/
def markA : List Addr → Nat → List Addr → Nat × List Addr
  | [], m, nx => (m, nx)
  | b :: bs, m, nx => bif Nat.beq (Nat.land (Nat.shiftRight m b) 1) 0 then markA bs (Nat.lor m (Nat.shiftLeft 1 b)) (b :: nx) else markA bs m nx
def levA (g : Addr → Option Obj) : List Addr → Nat → List Addr → Nat × List Addr
  | [], m, nx => (m, nx)
  | a :: as, m, nx => match g a with
    | some o => levA g as (markA (He.refsD o) m nx).1 (markA (He.refsD o) m nx).2
    | none => levA g as m nx
def reachA (g : Addr → Option Obj) : Nat → List Addr → Nat → List Addr → List Addr
  | 0, fr, _, acc => acc ++ fr
  | n + 1, fr, m, acc => reachA g n (levA g fr m []).2 (levA g fr m []).1 (acc ++ fr)
def enA (n : Nat) (g : Addr → Option Obj) : List Addr := cStatics :: reachA g n [mainGlobals] (Nat.shiftLeft 1 mainGlobals) []
end Sim

set_option maxHeartbeats 2000000
/-! a method with defaults, called with all its arguments -/
namespace Sim
open PySem PySem.Spec PyProof.Rows L2 Evl
end Sim

set_option maxHeartbeats 2000000
/-! cells read as data by a call, and taken out of the data again behind it: what the call gave does not lean on them -/
namespace Sim
open PySem PySem.Spec PyProof.Rows L2 Evl SlX
section
variable {D : List Addr} {W Z G G0 H0 H : Hp} {ls : List Addr} {cs : Cs} {σ : L2.St} {te : TE} {α β : Type} {R : Rep α} {S : Rep β} {κ : Type}
/-- without what stands at D -/
def rmL (D : List Addr) (G : Hp) : Hp := fun a => if a ∈ D then none else G a
/-- with what W has at D -/
def adL (D : List Addr) (W G : Hp) : Hp := fun a => if a ∈ D then W a else G a
theorem rm_out {a : Addr} (h : a ∉ D) : rmL D G a = G a := if_neg h
theorem rm_of {a : Addr} {o : HO} (h : G a = some o) (hn : a ∉ D) : rmL D G a = some o := by rw [rm_out hn, h]
/-- the value leans on nothing at D -/
def Off (D : List Addr) (W Z : Hp) (R : Rep α) (x : α) : Prop := ∀ (G : Hp) (v : V), Ex Z G → (∀ a ∈ D, G a = W a) → R.r G v x → R.r (rmL D G) v x
theorem Off.sc (h : R.Sc) (x : α) : Off D W Z R x := fun _ _ _ _ r => h r
/-- a value made while the cells at D were data: without them again -/
theorem E.off {m : Option α} (hD : ∀ a ∈ D, G a = none) (hW : ∀ a ∈ D, W a ≠ none) (ho : ∀ x, m = some x → Off D W (adL D W G) R x) (h : E te σ (adL D W G) W R m) : E te σ G W R m := fun x hx H e e' Q q => by
  refine h x hx H (fun a o ha => ?_) e' Q fun v H2 G2 u r => q v H2 (rmL D G2) ⟨fun a o ha => ?_, fun a o ha => ?_, u.hh, fun a h1 h2 => ?_⟩ (ho x hx G2 v u.gg (fun a ha => ?_) r)
  · unfold adL at ha
    split at ha
    · exact e' a o ha
    · exact e a o ha
  · have hn : a ∉ D := fun z => by rw [hD a z] at ha; cases ha
    exact rm_of (u.gg a o (by unfold adL; rw [if_neg hn]; exact ha)) hn
  · unfold rmL at ha
    split at ha
    · cases ha
    · exact u.gh a o ha
  · unfold rmL
    split
    · rfl
    · rename_i hn
      exact u.nw a h1 (by unfold adL; rw [if_neg hn]; exact h2)
  · cases q : W a with
    | none => exact absurd q (hW a ha)
    | some o => exact u.gg a o (by unfold adL; rw [if_pos ha]; exact q)
/-! ### kinds of values -/
theorem Off.m [DecidableEq κ] {kf : κ → Key} {d : List (κ × α)} (hD : ∀ a ∈ D, ∀ ws, W a ≠ some (.dK ws)) (hs : R.Sc) : Off D W Z (rM kf R) d := fun G v hZ hG ⟨a, ws, h1, h2, h3⟩ => by
  have hn : a ∉ D := fun z => hD a z ws (by rw [← hG a z]; exact h2)
  exact ⟨a, ws, h1, rm_of h2 hn, Paired.mapP h3 fun _ _ h => ⟨h.1, hs h.2⟩⟩
theorem pr_both {P : V → α → Prop} {Q : V → β → Prop} : ∀ {vs : List V} {xs : List α} {ys : List β}, Paired P vs xs → Paired Q vs ys → xs ≠ [] → ∃ v x y, P v x ∧ Q v y ∧ x ∈ xs ∧ y ∈ ys
  | _, _, _, .nil, .nil, h => absurd rfl h
  | _, _, _, .cons h1 t1, .cons h2 t2, _ => ⟨_, _, _, h1, h2, List.mem_cons_self .., List.mem_cons_self ..⟩
/-- no value stands for both -/
def Dsj (R : Rep α) (S : Rep β) : Prop := ∀ {G : Hp} {v : V} {x : α} {y : β}, R.r G v x → S.r G v y → False
/-- a list that is not empty, of things unlike those that the lists at D hold -/
theorem Off.l {xs : List α} (hD : ∀ a ∈ D, ∀ vs, W a = some (.lst vs) → ∃ ys : List β, Paired (S.r Z) vs ys) (hd : Dsj R S) (hne : xs ≠ []) (ho : ∀ x ∈ xs, Off D W Z R x) : Off D W Z (rL R) xs := fun G v hZ hG ⟨a, vs, h1, h2, h3⟩ => by
  have hn : a ∉ D := fun z => by
    obtain ⟨ys, k⟩ := hD a z vs (by rw [← hG a z]; exact h2)
    obtain ⟨v, x, y, r1, r2, _, _⟩ := pr_both h3 (Paired.mapP k fun _ _ => S.mono hZ) hne
    exact hd r1 r2
  have key : ∀ {vs : List V} {xs : List α}, Paired (R.r G) vs xs → (∀ x ∈ xs, Off D W Z R x) → Paired (R.r (rmL D G)) vs xs := by
    intro vs xs h
    induction h with
    | nil => intro _; exact .nil
    | cons h t ih => intro ho; exact .cons (ho _ (List.mem_cons_self ..) G _ hZ hG h) (ih fun x hx => ho x (List.mem_cons_of_mem _ hx))
  exact ⟨a, vs, h1, rm_of h2 hn, key h3 ho⟩
theorem Off.o {x : Option α} (h : ∀ y, x = some y → Off D W Z R y) : Off D W Z (rO R) x := fun G v hZ hG r => by
  cases x with
  | none => exact r
  | some y => exact h y rfl G v hZ hG r
def OffP (D : List Addr) (W Z : Hp) (p : Pd) : Prop := ∀ (G : Hp) (v : V), Ex Z G → (∀ a ∈ D, G a = W a) → p.p G v → p.p (rmL D G) v
theorem Off.obj {C : Addr} {ns : List Str} {fl : α → List Pd} {x : α} (hD : ∀ a ∈ D, ∀ dx fs, W a ≠ some (.ins C dx fs)) (hp : ∀ p ∈ fl x, OffP D W Z p) : Off D W Z (rObj C ns fl) x := fun G v hZ hG ⟨a, dx, fs, h1, h2, h3, h4⟩ => by
  have hn : a ∉ D := fun z => hD a z dx fs (by rw [← hG a z]; exact h2)
  have key : ∀ {vs : List V} {ps : List Pd}, Paired (fun v (q : Pd) => q.p G v) vs ps → (∀ p ∈ ps, OffP D W Z p) → Paired (fun v (q : Pd) => q.p (rmL D G) v) vs ps := by
    intro vs ps h
    induction h with
    | nil => intro _; exact .nil
    | cons h t ih => intro ho; exact .cons (ho _ (List.mem_cons_self ..) G _ hZ hG h) (ih fun x hx => ho x (List.mem_cons_of_mem _ hx))
  exact ⟨a, dx, fs, h1, rm_of h2 hn, h3, key h4 hp⟩
theorem Dsj.l {C : Addr} {fl : β → Ps} : Dsj (rL R) (rSl C fl) := fun ⟨a, vs, h1, h2, _⟩ ⟨b, dx, us, k1, k2, _⟩ => by
  rw [h1] at k1
  cases k1
  rw [h2] at k2
  unfold SlO at k2
  cases k2
theorem Dsj.i {C : Addr} {fl : β → Ps} : Dsj rI (rSl C fl) := fun {_ v x _} h ⟨b, dx, us, k1, _⟩ => by
  have h : v = .int x := h
  rw [h] at k1
  cases k1
theorem Dsj.b {C : Addr} {fl : β → Ps} : Dsj rB (rSl C fl) := fun {_ v x _} h ⟨b, dx, us, k1, _⟩ => by
  have h : v = .bl x := h
  rw [h] at k1
  cases k1
theorem Dsj.o {C : Addr} {fl : β → Ps} (hd : Dsj R (rSl C fl)) : Dsj (rO R) (rSl C fl) := fun {_ v x _} h k => by
  cases x with
  | none =>
    obtain ⟨b, dx, us, k1, _⟩ := k
    have h : v = .non := h
    rw [h] at k1
    cases k1
  | some y => exact hd h k
end
end Sim

set_option maxHeartbeats 2000000
/-! an object that changes, with a list of its own: made, called, read -/
namespace Sim
open PySem PySem.Spec PyProof.Rows L2 Evl SlX
section
variable {K : PySem.W.Frag} {C C2 : Addr} {σ : L2.St} {G0 H0 G H G2 H2 W : Hp} {ls : List Addr} {cs : Cs} {l p : Addr} {ta : TA} {te : TE} {X : XK} {α β κ ι ρ : Type} {R : Rep α} {S : Rep β} {B : Rep κ} {A : AR ι} {D : Ends} {tz : TS} {ns : List Str}
section
variable {i j : Nat} {ps : List Pd} {ys : List κ}
end
end
end Sim

set_option maxHeartbeats 2000000
/-! dicts of data compared; tuples that may be a def's default; an object made with its default -/
namespace L2
open PySem PySem.Spec PyProof.Rows SlX
section
variable {K : PySem.W.Frag} {H : Hp}
end
end L2
namespace Sim
open PySem PySem.Spec PyProof.Rows L2 Evl SlX
section
variable {K : PySem.W.Frag} {C : Addr} {σ : L2.St} {G0 H0 G H G2 H2 W : Hp} {ls : List Addr} {cs : Cs} {l p : Addr} {ta : TA} {te tl : TE} {X : XK} {α β κ ι ρ : Type} {R : Rep α} {S : Rep β} {B : Rep κ} {A : AR ι} {D : Ends} {tz : TS} {ns : List Str}
/-! ### dicts of data -/
/-! ### tuples that may stand among a def's defaults -/
/-! ### a method with its default left out -/
end
end Sim

set_option maxHeartbeats 2000000
/-! objects told by some of their attributes; an object with three new lists of texts (an outlook) -/
namespace Sim
open PySem PySem.Spec PyProof.Rows L2 Evl SlX
section
variable {K : PySem.W.Frag} {C : Addr} {σ : L2.St} {G0 H0 G H G2 H2 W Z : Hp} {D : List Addr} {ls : List Addr} {cs : Cs} {l p x : Addr} {ta : TA} {te to : TE} {X : XK} {α β γ κ ι ρ : Type} {R : Rep α} {S : Rep β} {T : Rep γ} {A : AR ι} {ns all nw : List Str} {fl : α → List (Str × Pd)}
/-! ### all cells become data -/
def frz (G H : Hp) (cs : Cs) : Hp := fun a => if a ∈ cs.map (·.1) then H a else G a
/-! ### the outlook's shape -/
section
variable {α0 α1 : Type} {S0 : Rep α0} {S1 : Rep α1} {g0 : β → α0} {g1 g2 : β → α1} {u1 u2 u3 : β → List Str} {N : Addr → Prop} {f : ι → Option β} {mi : Option ι}
end

/-! ### a paper and a list of texts read as data -/
def NotIt (D : List Addr) (W Z : Hp) (R : Rep α) : Prop := ∀ a ∈ D, ∀ vs, W a = some (.lst vs) → ∀ {G' : Hp} {v : V} {x : α}, v ∈ vs → Ex Z G' → R.r G' v x → False
theorem Off.l2 {xs : List α} (hD : NotIt D W Z R) (hne : xs ≠ []) (ho : ∀ x ∈ xs, Off D W Z R x) : Off D W Z (rL R) xs := fun G v hZ hG ⟨a, vs, h1, h2, h3⟩ => by
  have hn : a ∉ D := fun z => by
    cases h3 with
    | nil => exact hne rfl
    | cons h t => exact hD a z _ (by rw [← hG a z]; exact h2) (List.mem_cons_self ..) hZ h
  have key : ∀ {vs : List V} {xs : List α}, Paired (R.r G) vs xs → (∀ x ∈ xs, Off D W Z R x) → Paired (R.r (rmL D G)) vs xs := by
    intro vs xs h
    induction h with
    | nil => intro _; exact .nil
    | cons h t ih => intro ho; exact .cons (ho _ (List.mem_cons_self ..) G _ hZ hG h) (ih fun x hx => ho x (List.mem_cons_of_mem _ hx))
  exact ⟨a, vs, h1, rm_of h2 hn, key h3 ho⟩
theorem pr_mem {P : V → β → Prop} : ∀ {vs : List V} {ys : List β} {v : V}, Paired P vs ys → v ∈ vs → ∃ y, P v y
  | _, _, _, .cons h t, hm => by
    rcases List.mem_cons.mp hm with rfl | hm
    · exact ⟨_, h⟩
    · exact pr_mem t hm
/-- the lists at D hold what B is, or texts -/
def Lsts (D : List Addr) (W Z : Hp) (B : Rep κ) : Prop := ∀ a ∈ D, ∀ vs, W a = some (.lst vs) → (∃ ys : List κ, Paired (B.r Z) vs ys) ∨ ∃ ys : List Str, Paired (rS.r Z) vs ys
theorem Lsts.not {B : Rep κ} (h : Lsts D W Z B) (d1 : Dsj R B) (d2 : Dsj R rS) : NotIt D W Z R := fun a ha vs e {G' v x} hm hZ r => by
  rcases h a ha vs e with ⟨ys, k⟩ | ⟨ys, k⟩
  · obtain ⟨y, hy⟩ := pr_mem k hm
    exact d1 r (B.mono hZ hy)
  · obtain ⟨y, hy⟩ := pr_mem k hm
    exact d2 r (Rep.mono _ hZ hy)
section
variable {q : Addr} {i j k : Nat} {C2 : Addr} {B : Rep κ} {ys : List κ} {xs : List Str} {ps : List Pd}
end
end
end Sim

set_option maxHeartbeats 4000000
/-! an __init__ whose first statement is super().__init__(..), with own captured names -/
namespace Sim
open PySem PySem.Spec PyProof.Rows L2 PySem.W PySem.Calls NdefX
section
variable {M : Model} {A : Around} {E : Value → Shared → Prop} {s₀ s : Shared} {m cm : Str → Option Value} {env : Env} {own : List (Str × Addr)}
end
section
variable {M : Model} {A : Around} {E : Value → Shared → Prop} {s : Shared}
end
section
variable {CX : CXT} {P : Program} {w : World} {K : Frag} {mg : Str → Option Value} {base : Heap} {N ps psg : List Str} {F : NF} {C D f g : Addr} {fd fdg : FuncData} {k : Nat} {sp spg : Sp} {e : Expr} {es : List Expr} {rest : List Stmt} {p0 p1 p2 p3 p4 : Pos} {pl : Sem Bool}
end
end Sim

set_option maxHeartbeats 2000000
/-! list(reversed(a list)) -/
namespace RT
open PySem PySem.Spec PyProof.Rows
section
variable {prog : Program} {w : World} {A : Around} {E : Value → Shared → Prop} {s : Shared}
end
section
variable {prog : Program} {w : World} {A : Around} {E : Value → Shared → Prop} {s : Shared}
end
end RT
namespace L2
open PySem PySem.Spec PyProof.Rows RT
section
variable {X : Cx}
end
end L2
namespace Sim
open PySem PySem.Spec PyProof.Rows L2 Evl SlX
section
variable {K : PySem.W.Frag} {σ : L2.St} {G H W : Hp} {te : TE} {α : Type} {R : Rep α}
end
end Sim

set_option maxHeartbeats 2000000
/-! a dict walked while it is locked; dicts read whether they are locked or not -/
namespace Sim
open PySem PySem.Spec PyProof.Rows L2 Evl SlX
section
variable {K : PySem.W.Frag} {C : Addr} {σ : L2.St} {G0 H0 G H G2 H2 W : Hp} {ls : List Addr} {cs : Cs} {l p a : Addr} {ta : TA} {te td ti tx : TE} {X : XK} {α β κ ι ρ : Type} {R : Rep α} {S : Rep β} {D : Ends} {tz : TS} {ns all : List Str} {kf : κ → Key} {od : Obj} {ws : List (Key × V)}
section
variable [DecidableEq κ]
end
/-! ### locking keeps what is known -/
end
end Sim

/-! a | b, a of an own class, b of one, too, or a function; pairs of classes; a lambda that asks -/
namespace PySem.W
open PySem PySem.Spec PyProof.Rows PySem.Calls
variable {prog : Program} {w : World} {A : Around} {E : Value → Shared → Prop} {s : Shared} {K : Frag} {x C L f : Addr} {h₀ : Heap} {m : Str → Option Value} {ox : Obj} {od : Option Obj} {T : String}
end PySem.W
namespace L2
open PySem PySem.Spec PyProof.Rows
section
variable {X : Cx} {CX : CXT} {k : Nat} {f C : Addr} {fd : FuncData} {ps : List Str} {sp : Sp} {pins : List (Addr × Obj)} {σ : St} {H : Hp} {s : Shared} {ta tb : TE}
end
end L2
namespace Sim
open PySem PySem.Spec PyProof.Rows L2 Evl LamX LamF NdefX
def opfB (cn : List Str) (nm : String) (D : Str) (K : PySem.W.Frag) : Bool :=
  opsB cn nm D K && ((cn.all fun c => decide (PySem.W.subIn K (.type "function") (.ref (He.ga K c)) = some false)) && (decide (PySem.W.findIn K (.type "function") (PySem.dunder nm) = some none) && decide (PySem.W.findIn K (.type "function") (dunderR nm) = some none)))
section
variable {δ γ : Type} {cn : List Str} {nm : String} {D : Str} {K : PySem.W.Frag} {S : Rep δ} {T : Rep γ} {ob : δ → Bool} {σ : L2.St} {G W : Hp} {ta tb te : TE} {ma mb m : Option δ}
end
def isfB (n : Str) (K : PySem.W.Frag) : Bool := PySem.W.isFn K (.ref (He.ga K n))
/-! ### one of two kinds -/
/-! ### lambda ask: ask(nm), as a side -/
section
variable {P : Program} {w : World} {K : PySem.W.Frag} {mg : Str → Option Value} {base : Heap} {fr ps N : List Str} {f : Addr} {F : LF} {G : Hp}
end
end Sim

set_option maxHeartbeats 40000000
namespace My
open PySem PySem.Spec PyProof.Rows L2 Sim
def top (i : Nat) : Stmt := PySem.Challenge.pw_askedpoints_k16_joined_and_met_sides.main.body.getD i (.Pass ⟨0, 0, 0, 0⟩)
abbrev s_Record___init__ : Stmt := inClass (top 13) 1
abbrev s_Asker___init__ : Stmt := inClass (top 15) 0
abbrev s_Asker___call__ : Stmt := inClass (top 15) 1
abbrev s_TableAsker___init__ : Stmt := inClass (top 16) 0
abbrev s_TableAsker_look : Stmt := inClass (top 16) 1
abbrev s_evaluate_side : Stmt := top 17
abbrev s_closure : Stmt := top 19
abbrev s_turned : Stmt := top 20
abbrev s_least_above : Stmt := top 21
abbrev s_bounds_table : Stmt := top 22
abbrev s_first_ring : Stmt := top 23
abbrev s_first_lack : Stmt := top 24
abbrev s_longest : Stmt := top 25
abbrev s_neighbours : Stmt := top 26
abbrev s_Order___init__ : Stmt := inClass (top 28) 1
abbrev s_Order__require : Stmt := inClass (top 28) 5
abbrev s_Order_below : Stmt := inClass (top 28) 6
abbrev s_Order_join_of : Stmt := inClass (top 28) 7
abbrev s_Order_meet_of : Stmt := inClass (top 28) 8
abbrev s_Order_least : Stmt := inClass (top 28) 12
abbrev s_Order_greatest : Stmt := inClass (top 28) 13
abbrev s_Order___contains__ : Stmt := inClass (top 28) 16
abbrev s_Order___eq__ : Stmt := inClass (top 28) 18
abbrev s_Side___or__ : Stmt := inClass (top 30) 0
abbrev s_Side___and__ : Stmt := inClass (top 30) 1
abbrev s_Tell___init__ : Stmt := inClass (top 31) 0
abbrev s_Tell___call__ : Stmt := inClass (top 31) 1
abbrev s_Copy___init__ : Stmt := inClass (top 32) 0
abbrev s_Copy___call__ : Stmt := inClass (top 32) 1
abbrev s_Gate___init__ : Stmt := inClass (top 33) 0
abbrev s_Gate___call__ : Stmt := inClass (top 33) 1
abbrev s_PairSide___init__ : Stmt := inClass (top 34) 0
abbrev s_JoinSide___call__ : Stmt := inClass (top 35) 0
abbrev s_MeetSide___call__ : Stmt := inClass (top 36) 0
abbrev s__law_pot : Stmt := top 38
abbrev s__law_draw : Stmt := top 39
abbrev s__law_masks : Stmt := top 40
abbrev s__law_under : Stmt := top 41
abbrev s__law_join : Stmt := top 42
abbrev s__law_meet : Stmt := top 43
abbrev s__law_pairs : Stmt := top 44
abbrev s__law_names : Stmt := top 45
abbrev s__law_look : Stmt := top 46
abbrev s__law_part : Stmt := top 47
abbrev s__law_part_value : Stmt := top 48
abbrev s__law_pair_due : Stmt := top 49
abbrev s__law_stop : Stmt := top 50
abbrev s__law_copying : Stmt := top 51
abbrev s__law_part_made : Stmt := top 52
abbrev s__law_pair_got : Stmt := top 53
abbrev s_law : Stmt := top 54
def d_Record___init__ : He.DefD := ⟨("Record", some "__init__"), "__init__", "Record.__init__", defArgs s_Record___init__, defBody s_Record___init__, defScope s_Record___init__, [], []⟩
def d_Asker___init__ : He.DefD := ⟨("Asker", some "__init__"), "__init__", "Asker.__init__", defArgs s_Asker___init__, defBody s_Asker___init__, defScope s_Asker___init__, [], []⟩
def d_Asker___call__ : He.DefD := ⟨("Asker", some "__call__"), "__call__", "Asker.__call__", defArgs s_Asker___call__, defBody s_Asker___call__, defScope s_Asker___call__, [], []⟩
def d_TableAsker_look : He.DefD := ⟨("TableAsker", some "look"), "look", "TableAsker.look", defArgs s_TableAsker_look, defBody s_TableAsker_look, defScope s_TableAsker_look, [], []⟩
def d_evaluate_side : He.DefD := ⟨("evaluate_side", none), "evaluate_side", "evaluate_side", defArgs s_evaluate_side, defBody s_evaluate_side, defScope s_evaluate_side, [], []⟩
def d_closure : He.DefD := ⟨("closure", none), "closure", "closure", defArgs s_closure, defBody s_closure, defScope s_closure, [], []⟩
def d_turned : He.DefD := ⟨("turned", none), "turned", "turned", defArgs s_turned, defBody s_turned, defScope s_turned, [], []⟩
def d_least_above : He.DefD := ⟨("least_above", none), "least_above", "least_above", defArgs s_least_above, defBody s_least_above, defScope s_least_above, [], []⟩
def d_bounds_table : He.DefD := ⟨("bounds_table", none), "bounds_table", "bounds_table", defArgs s_bounds_table, defBody s_bounds_table, defScope s_bounds_table, [], []⟩
def d_first_ring : He.DefD := ⟨("first_ring", none), "first_ring", "first_ring", defArgs s_first_ring, defBody s_first_ring, defScope s_first_ring, [], []⟩
def d_first_lack : He.DefD := ⟨("first_lack", none), "first_lack", "first_lack", defArgs s_first_lack, defBody s_first_lack, defScope s_first_lack, [], []⟩
def d_longest : He.DefD := ⟨("longest", none), "longest", "longest", defArgs s_longest, defBody s_longest, defScope s_longest, [], []⟩
def d_neighbours : He.DefD := ⟨("neighbours", none), "neighbours", "neighbours", defArgs s_neighbours, defBody s_neighbours, defScope s_neighbours, [], []⟩
def d_Order___init__ : He.DefD := ⟨("Order", some "__init__"), "__init__", "Order.__init__", defArgs s_Order___init__, defBody s_Order___init__, defScope s_Order___init__, [], []⟩
def d_Order__require : He.DefD := ⟨("Order", some "_require"), "_require", "Order._require", defArgs s_Order__require, defBody s_Order__require, defScope s_Order__require, [], []⟩
def d_Order_below : He.DefD := ⟨("Order", some "below"), "below", "Order.below", defArgs s_Order_below, defBody s_Order_below, defScope s_Order_below, [], []⟩
def d_Order_join_of : He.DefD := ⟨("Order", some "join_of"), "join_of", "Order.join_of", defArgs s_Order_join_of, defBody s_Order_join_of, defScope s_Order_join_of, [], []⟩
def d_Order_meet_of : He.DefD := ⟨("Order", some "meet_of"), "meet_of", "Order.meet_of", defArgs s_Order_meet_of, defBody s_Order_meet_of, defScope s_Order_meet_of, [], []⟩
def d_Order___contains__ : He.DefD := ⟨("Order", some "__contains__"), "__contains__", "Order.__contains__", defArgs s_Order___contains__, defBody s_Order___contains__, defScope s_Order___contains__, [], []⟩
def d_Order___eq__ : He.DefD := ⟨("Order", some "__eq__"), "__eq__", "Order.__eq__", defArgs s_Order___eq__, defBody s_Order___eq__, defScope s_Order___eq__, [], []⟩
def d_Side___or__ : He.DefD := ⟨("Side", some "__or__"), "__or__", "Side.__or__", defArgs s_Side___or__, defBody s_Side___or__, defScope s_Side___or__, [], []⟩
def d_Side___and__ : He.DefD := ⟨("Side", some "__and__"), "__and__", "Side.__and__", defArgs s_Side___and__, defBody s_Side___and__, defScope s_Side___and__, [], []⟩
def d_Tell___init__ : He.DefD := ⟨("Tell", some "__init__"), "__init__", "Tell.__init__", defArgs s_Tell___init__, defBody s_Tell___init__, defScope s_Tell___init__, [], []⟩
def d_Tell___call__ : He.DefD := ⟨("Tell", some "__call__"), "__call__", "Tell.__call__", defArgs s_Tell___call__, defBody s_Tell___call__, defScope s_Tell___call__, [], []⟩
def d_Copy___init__ : He.DefD := ⟨("Copy", some "__init__"), "__init__", "Copy.__init__", defArgs s_Copy___init__, defBody s_Copy___init__, defScope s_Copy___init__, [], []⟩
def d_Copy___call__ : He.DefD := ⟨("Copy", some "__call__"), "__call__", "Copy.__call__", defArgs s_Copy___call__, defBody s_Copy___call__, defScope s_Copy___call__, [], []⟩
def d_Gate___init__ : He.DefD := ⟨("Gate", some "__init__"), "__init__", "Gate.__init__", defArgs s_Gate___init__, defBody s_Gate___init__, defScope s_Gate___init__, [], []⟩
def d_Gate___call__ : He.DefD := ⟨("Gate", some "__call__"), "__call__", "Gate.__call__", defArgs s_Gate___call__, defBody s_Gate___call__, defScope s_Gate___call__, [], []⟩
def d_PairSide___init__ : He.DefD := ⟨("PairSide", some "__init__"), "__init__", "PairSide.__init__", defArgs s_PairSide___init__, defBody s_PairSide___init__, defScope s_PairSide___init__, [], []⟩
def d_JoinSide___call__ : He.DefD := ⟨("JoinSide", some "__call__"), "__call__", "JoinSide.__call__", defArgs s_JoinSide___call__, defBody s_JoinSide___call__, defScope s_JoinSide___call__, [], []⟩
def d_MeetSide___call__ : He.DefD := ⟨("MeetSide", some "__call__"), "__call__", "MeetSide.__call__", defArgs s_MeetSide___call__, defBody s_MeetSide___call__, defScope s_MeetSide___call__, [], []⟩
def d__law_pot : He.DefD := ⟨("_law_pot", none), "_law_pot", "_law_pot", defArgs s__law_pot, defBody s__law_pot, defScope s__law_pot, [], []⟩
def d__law_draw : He.DefD := ⟨("_law_draw", none), "_law_draw", "_law_draw", defArgs s__law_draw, defBody s__law_draw, defScope s__law_draw, [], []⟩
def d__law_masks : He.DefD := ⟨("_law_masks", none), "_law_masks", "_law_masks", defArgs s__law_masks, defBody s__law_masks, defScope s__law_masks, [], []⟩
def d__law_under : He.DefD := ⟨("_law_under", none), "_law_under", "_law_under", defArgs s__law_under, defBody s__law_under, defScope s__law_under, [], []⟩
def d__law_join : He.DefD := ⟨("_law_join", none), "_law_join", "_law_join", defArgs s__law_join, defBody s__law_join, defScope s__law_join, [], []⟩
def d__law_meet : He.DefD := ⟨("_law_meet", none), "_law_meet", "_law_meet", defArgs s__law_meet, defBody s__law_meet, defScope s__law_meet, [], []⟩
def d__law_pairs : He.DefD := ⟨("_law_pairs", none), "_law_pairs", "_law_pairs", defArgs s__law_pairs, defBody s__law_pairs, defScope s__law_pairs, [], []⟩
def d__law_names : He.DefD := ⟨("_law_names", none), "_law_names", "_law_names", defArgs s__law_names, defBody s__law_names, defScope s__law_names, [], []⟩
def d__law_look : He.DefD := ⟨("_law_look", none), "_law_look", "_law_look", defArgs s__law_look, defBody s__law_look, defScope s__law_look, [], []⟩
def d__law_part : He.DefD := ⟨("_law_part", none), "_law_part", "_law_part", defArgs s__law_part, defBody s__law_part, defScope s__law_part, [], []⟩
def d__law_part_value : He.DefD := ⟨("_law_part_value", none), "_law_part_value", "_law_part_value", defArgs s__law_part_value, defBody s__law_part_value, defScope s__law_part_value, [], []⟩
def d__law_pair_due : He.DefD := ⟨("_law_pair_due", none), "_law_pair_due", "_law_pair_due", defArgs s__law_pair_due, defBody s__law_pair_due, defScope s__law_pair_due, [], []⟩
def d__law_stop : He.DefD := ⟨("_law_stop", none), "_law_stop", "_law_stop", defArgs s__law_stop, defBody s__law_stop, defScope s__law_stop, [], []⟩
def d__law_copying : He.DefD := ⟨("_law_copying", none), "_law_copying", "_law_copying", defArgs s__law_copying, defBody s__law_copying, defScope s__law_copying, [], []⟩
def d__law_part_made : He.DefD := ⟨("_law_part_made", none), "_law_part_made", "_law_part_made", defArgs s__law_part_made, defBody s__law_part_made, defScope s__law_part_made, [], []⟩
def d__law_pair_got : He.DefD := ⟨("_law_pair_got", none), "_law_pair_got", "_law_pair_got", defArgs s__law_pair_got, defBody s__law_pair_got, defScope s__law_pair_got, [], []⟩
def d_law : He.DefD := ⟨("law", none), "law", "law", defArgs s_law, defBody s_law, defScope s_law, [], []⟩
def fn : List He.DefD := [d_Record___init__, d_Asker___init__, d_Asker___call__, d_TableAsker_look, d_evaluate_side, d_closure, d_turned, d_least_above, d_bounds_table, d_first_ring, d_first_lack, d_longest, d_neighbours, d_Order___init__, d_Order__require, d_Order_below, d_Order_join_of, d_Order_meet_of, d_Order___contains__, d_Order___eq__, d_Side___or__, d_Side___and__, d_Tell___init__, d_Tell___call__, d_Copy___init__, d_Copy___call__, d_Gate___init__, d_Gate___call__, d_PairSide___init__, d_JoinSide___call__, d_MeetSide___call__, d__law_pot, d__law_draw, d__law_masks, d__law_under, d__law_join, d__law_meet, d__law_pairs, d__law_names, d__law_look, d__law_part, d__law_part_value, d__law_pair_due, d__law_stop, d__law_copying, d__law_part_made, d__law_pair_got, d_law]
def fa : List He.Fa := [.glo "_wall", .glo "AskedError", .glo "BadSize", .glo "NotElement", .glo "Ring", .glo "NoJoin", .glo "NoMeet", .glo "AskedTwice", .glo "Unanswered", .glo "NoSide", .glo "NotDue", .glo "Record", .glo "Asker", .glo "TableAsker", .glo "evaluate_side", .glo "closure", .glo "turned", .glo "least_above", .glo "bounds_table", .glo "first_ring", .glo "first_lack", .glo "longest", .glo "neighbours", .glo "Order", .glo "Side", .glo "Tell", .glo "Copy", .glo "Gate", .glo "PairSide", .glo "JoinSide", .glo "MeetSide", .glo "_law_pot", .glo "_law_draw", .glo "_law_masks", .glo "_law_under", .glo "_law_join", .glo "_law_meet", .glo "_law_pairs", .glo "_law_names", .glo "_law_look", .glo "_law_part", .glo "_law_part_value", .glo "_law_pair_due", .glo "_law_stop", .glo "_law_copying", .glo "_law_part_made", .glo "_law_pair_got", .glo "law", .free "super", .free "range", .free "len", .free "max", .free "list", .free "min", .free "abs", .free "int", .free "sorted", .free "isinstance", .free "tuple", .free "dict", .cls "Order", .noat "Order" "_above", .noat "Order" "_joins", .noat "Order" "_meets", .noat "Order" "_members", .noat "Order" "_height", .meth "Order" "_require", .cls "Tell", .noat "Tell" "value", .meth "Tell" "__call__", .cls "Copy", .noat "Copy" "name", .meth "Copy" "__call__", .cls "Gate", .noat "Gate" "name", .noat "Gate" "at", .noat "Gate" "then", .meth "Order" "below", .meth "Gate" "__call__", .cls "JoinSide", .noat "JoinSide" "left", .noat "JoinSide" "right", .meth "Order" "join_of", .meth "JoinSide" "__call__", .cls "MeetSide", .noat "MeetSide" "left", .noat "MeetSide" "right", .meth "Order" "meet_of", .meth "MeetSide" "__call__", .mkr "JoinSide", .mkr "MeetSide", .cls "TableAsker", .noat "TableAsker" "order", .noat "TableAsker" "asks", .noat "TableAsker" "table", .noat "TableAsker" "allowed", .meth "Order" "__contains__", .meth "TableAsker" "look", .meth "TableAsker" "__call__", .mkr "Record", .mkr "Copy", .mkr "Tell", .mkr "Gate", .mkr "TableAsker", .mkr "Order"]
def ex : List (PySem.W.Frag → Bool) := [fun K => He.conB K "Order" "MOST" (.int 12), kiOB "Order" "Order" true, tyiB "Order", sclB "Record", slotB "Record" "name" 1, slotB "Record" "asks" 0, slotB "Record" "result" 2, fnmB "Tell" "__call__", fnmB "Copy" "__call__", fnmB "Gate" "__call__", fnmB "JoinSide" "__call__", fnmB "MeetSide" "__call__", eqmB "JoinSide" "PairSide" "__init__", eqmB "MeetSide" "PairSide" "__init__", fnmB "TableAsker" "__call__", eqmB "TableAsker" "Asker" "__call__", isfB "_law_stop", xaB ["NotDue"] "NotDue" true, xsB ["NotDue"], xnB ["NotDue"] ["name"], xaB ["NotElement"] "NotElement" true, xsB ["NotElement"], xnB ["NotElement"] ["value"], xaB ["NotElement"] "NotDue" false, opfB ["Tell", "Copy", "Gate", "JoinSide", "MeetSide"] "and" "Side", opfB ["Tell", "Copy", "Gate", "JoinSide", "MeetSide"] "or" "Side", kiOB "JoinSide" "Side" true, tyiB "JoinSide", kiOB "MeetSide" "Side" true, tyiB "MeetSide", kiOB "JoinSide" "PairSide" true, kiOB "MeetSide" "PairSide" true, kiOB "JoinSide" "MeetSide" false, kiOB "MeetSide" "MeetSide" true, kiOB "JoinSide" "JoinSide" true, kiOB "MeetSide" "JoinSide" false, noB "NotDue" "name", noB "NotElement" "value", noB "NoSide" "name"]
def P : Program := (PySem.Challenge.rw_askedpoints_k16_joined_and_met_sides).prog
abbrev s_NotElement___init__ : Stmt := inClass (top 4) 0
abbrev s_NoSide___init__ : Stmt := inClass (top 10) 0
abbrev s_NotDue___init__ : Stmt := inClass (top 11) 0
def x_NotDue : XcD := ⟨"NotDue", "NotDue.__init__", defArgs s_NotDue___init__, defBody s_NotDue___init__, defScope s_NotDue___init__⟩
def x_NotElement : XcD := ⟨"NotElement", "NotElement.__init__", defArgs s_NotElement___init__, defBody s_NotElement___init__, defScope s_NotElement___init__⟩
def x_NoSide : XcD := ⟨"NoSide", "NoSide.__init__", defArgs s_NoSide___init__, defBody s_NoSide___init__, defScope s_NoSide___init__⟩
def xs : List XcD := [x_NotDue, x_NotElement, x_NoSide]
def g_Order_least : GeD := ⟨"property", "Order", "least", "Order.least", defArgs s_Order_least, defBody s_Order_least, defScope s_Order_least⟩
def g_Order_greatest : GeD := ⟨"property", "Order", "greatest", "Order.greatest", defArgs s_Order_greatest, defBody s_Order_greatest, defScope s_Order_greatest⟩
def gs : List GeD := [g_Order_least, g_Order_greatest]
def sp_TableAsker : SpD := ⟨"TableAsker", "TableAsker", "Asker", "TableAsker.__init__", defArgs s_TableAsker___init__, defBody s_TableAsker___init__, defScope s_TableAsker___init__, [.non]⟩
def sp : List SpD := [sp_TableAsker]
abbrev Tx (K : PySem.W.Frag) (mg : Str → Option Value) : Prop := TxZ fa fn ex xs gs sp P.main.file K mg
def t__law_copying : TbD := ⟨("_law_copying", none), "_law_copying.<locals>.<lambda>"⟩
def tf : List TbD := [t__law_copying]
abbrev tb (K : PySem.W.Frag) : Cs := tf.map (TbD.cel K)
section
variable {w : World} {K : PySem.W.Frag} {mg : Str → Option Value} {base : Heap}
end
end My
namespace My
open PySem L2 Sim
section
variable {α β γ σ ρ : Type}
theorem bs {a : α} {f : α → Option β} : Option.bind (some a) f = f a := Eq.trans (Option.bind_some a f) (Eq.refl _)
def tab (n : Nat) (f : Nat → α) : List α := (List.range n).map f
end

/-! pop -/
section
open PyProof.Rows
end
end My

namespace My
open PySem L2 Sim
/-! ### Warshall -/
end My

namespace My
open PySem L2 Sim PyProof.Rows
/-! ### the pot -/
end My

namespace My
end My

namespace My
open PySem L2 Sim PyProof.Rows
/-! ### names -/
theorem lsub {α : Type} [DecidableEq α] : ∀ {l l2 : List α}, l.Nodup → (∀ x ∈ l, x ∈ l2) → l.length ≤ l2.length
  | [], _, _, _ => Nat.zero_le _
  | x :: xs, l2, h, hs => by
    have hx := hs x (List.mem_cons_self ..)
    obtain ⟨h1, h2⟩ := List.nodup_cons.mp h
    have := lsub (l := xs) (l2 := l2.erase x) h2 fun y hy => by
      have hne : y ≠ x := fun e => h1 (e ▸ hy)
      exact (List.mem_erase_of_ne hne).mpr (hs y (List.mem_cons_of_mem _ hy))
    rw [List.length_erase_of_mem hx] at this
    have := List.length_pos_of_mem hx
    simp only [List.length_cons]
    omega
/-! ### tables -/
section
variable {α : Type}
theorem put_new {d : List (Str × α)} {k : Str} {x : α} (h : k ∉ d.map (·.1)) : putM d k x = d ++ [(k, x)] := by
  unfold putM
  rw [if_neg]
  intro h2
  obtain ⟨q, hq, e⟩ := List.any_eq_true.mp h2
  exact h (List.mem_map.mpr ⟨q, hq, of_decide_eq_true e⟩)
theorem put_old {d : List (Str × α)} {k : Str} {x : α} (h : k ∈ d.map (·.1)) : putM d k x = d.map fun q => if q.1 = k then (q.1, x) else q := by
  unfold putM
  rw [if_pos]
  obtain ⟨q, hq, e⟩ := List.mem_map.mp h
  exact List.any_eq_true.mpr ⟨q, hq, decide_eq_true e⟩
theorem put_keys {d : List (Str × α)} {k : Str} {x : α} : (putM d k x).map (·.1) = if k ∈ d.map (·.1) then d.map (·.1) else d.map (·.1) ++ [k] := by
  by_cases h : k ∈ d.map (·.1)
  · rw [put_old h, if_pos h, List.map_map]
    refine List.map_congr_left fun q _ => ?_
    show (if q.1 = k then (q.1, x) else q).1 = q.1
    split <;> rfl
  · rw [put_new h, if_neg h, List.map_append]; rfl
theorem put_mem {d : List (Str × α)} {k : Str} {x : α} {q : Str × α} (h : q ∈ putM d k x) : q ∈ d ∨ q = (k, x) := by
  by_cases hk : k ∈ d.map (·.1)
  · rw [put_old hk] at h
    obtain ⟨r, hr, e⟩ := List.mem_map.mp h
    by_cases e2 : r.1 = k
    · rw [if_pos e2] at e; subst e; right; rw [e2]
    · rw [if_neg e2] at e; subst e; exact .inl hr
  · rw [put_new hk] at h
    rcases List.mem_append.mp h with h | h
    · exact .inl h
    · exact .inr (List.mem_singleton.mp h)
theorem put_len {d : List (Str × α)} {k : Str} {x : α} : (putM d k x).length ≤ d.length + 1 := by
  have := congrArg List.length (put_keys (d := d) (k := k) (x := x))
  rw [List.length_map] at this
  rw [this]
  split <;> simp
theorem look_mem {d : List (Str × α)} {k : Str} {x : α} (h : lookM d k = some x) : (k, x) ∈ d := by
  unfold lookM at h
  cases e : d.find? fun q => decide (q.1 = k) with
  | none => rw [e] at h; cases h
  | some q =>
    rw [e] at h
    have h1 : q.1 = k := of_decide_eq_true (p := q.1 = k) (List.find?_some (p := fun q : Str × α => decide (q.1 = k)) e)
    have h2 := List.mem_of_find?_eq_some e
    have h3 : q.2 = x := Option.some.inj h
    rw [← h1, ← h3]
    exact h2
theorem look_nd : ∀ {d : List (Str × α)} {k : Str} {x : α}, (d.map (·.1)).Nodup → (k, x) ∈ d → lookM d k = some x
  | q :: d, k, x, nd, h => by
    obtain ⟨n1, n2⟩ := List.nodup_cons.mp nd
    unfold lookM
    rw [List.find?_cons]
    rcases List.mem_cons.mp h with rfl | h
    · rw [decide_eq_true rfl]; rfl
    · have hne : ¬ q.1 = k := fun e => n1 (List.mem_map.mpr ⟨(k, x), h, e.symm⟩)
      rw [decide_eq_false hne]
      exact look_nd n2 h
/-- a table of elements, of at most l entries -/
structure Tb (n l : Nat) (d : List (Str × Int)) : Prop where
  nd : (d.map (·.1)).Nodup
  rg : ∀ q ∈ d, ∃ a : Nat, a < n ∧ q.2 = (a : Int)
  ln : d.length ≤ l
theorem Tb.nil {n l : Nat} : Tb n l [] := ⟨List.nodup_nil, fun q hq => (nomatch hq), Nat.zero_le _⟩
theorem Tb.imp {n l l' : Nat} {d : List (Str × Int)} (t : Tb n l d) (h : l ≤ l') : Tb n l' d := ⟨t.nd, t.rg, Nat.le_trans t.ln h⟩
theorem Tb.put {n l a : Nat} {k : Str} {d : List (Str × Int)} (t : Tb n l d) (ha : a < n) : Tb n (l + 1) (putM d k (a : Int)) where
  nd := by
    rw [put_keys]
    split
    · exact t.nd
    · rename_i h
      rw [List.nodup_append]
      exact ⟨t.nd, by simp, fun x hx y hy => by
        rw [List.mem_singleton] at hy
        subst hy
        exact fun e => h (e ▸ hx)⟩
  rg q hq := by
    rcases put_mem hq with h | rfl
    · exact t.rg q h
    · exact ⟨a, ha, rfl⟩
  ln := Nat.le_trans put_len (Nat.add_le_add_right t.ln 1)
theorem Tb.get {n l a : Nat} {d : List (Str × Int)} (t : Tb n l d) (ha : a < n) (k : Str) : ∃ b : Nat, b < n ∧ (lookM d k).getD (a : Int) = (b : Int) := by
  cases e : lookM d k with
  | none => exact ⟨a, ha, rfl⟩
  | some x =>
    obtain ⟨b, hb, e2⟩ := t.rg _ (look_mem e)
    exact ⟨b, hb, e2⟩
end
end My

namespace My
open PySem L2 Sim PyProof.Rows
/-! ### the pot -/
/-! ### the masks -/
structure Masks (ms : List Nat) : Prop where
  nd : ms.Nodup
  lt : ∀ x ∈ ms, x < 32
  top : 31 ∈ ms
  cl : ∀ x ∈ ms, ∀ y ∈ ms, x &&& y ∈ ms
/-! ### the order of the masks -/
theorem Masks.ne {ms : List Nat} (h : Masks ms) : 1 ≤ ms.length := List.length_pos_of_mem h.top
end My

namespace My
open PySem L2 Sim PyProof.Rows
end My

namespace My
open PySem L2 Sim PyProof.Rows
/-! ### all related pairs -/
end My

namespace My
open PySem L2 Sim PyProof.Rows
end My

namespace My
open PySem L2 Sim PyProof.Rows
/-! ### heights -/
def slt (le : Nat → Nat → Bool) (a b : Nat) : Bool := !(a == b) && le a b
def sup : Nat → (Nat → Nat) → Nat
  | 0, _ => 0
  | n + 1, f => max (sup n f) (f n)
def hg (n : Nat) (le : Nat → Nat → Bool) : Nat → Nat → Nat
  | 0, _ => 0
  | k + 1, b => sup n fun a => if slt le a b = true then hg n le k a + 1 else 0
/-! ### relaxing along steps -/
/-- between: what a state of the steps keeps -/
def Relax (n : Nat) (h : Nat → Nat) (s0 : Nat → Nat) (done : Nat → Nat → Prop) (s : List Int) : Prop :=
  ∃ f : Nat → Nat, s = tab n (fun i => (f i : Int)) ∧ (∀ i, i < n → s0 i ≤ f i ∧ f i ≤ h i) ∧ ∀ a b, b < n → done a b → s0 a + 1 ≤ f b
theorem Relax.imp {n : Nat} {h s0 : Nat → Nat} {d d' : Nat → Nat → Prop} {s : List Int} (r : Relax n h s0 d s) (i : ∀ a b, b < n → d' a b → d a b) : Relax n h s0 d' s := by
  obtain ⟨f, e, h1, h2⟩ := r
  exact ⟨f, e, h1, fun a b hb hd => h2 a b hb (i a b hb hd)⟩
/-- r rounds -/
def Rnd (n : Nat) (h : Nat → Nat) (r : Nat) (s : List Int) : Prop := ∃ f : Nat → Nat, s = tab n (fun i => (f i : Int)) ∧ (∀ i, i < n → f i ≤ h i) ∧ ∀ i, i < n → h i ≤ r → f i = h i
theorem Rnd.next {n : Nat} {h s0 : Nat → Nat} {done : Nat → Nat → Prop} {r : Nat} {s : List Int} (h1 : ∀ i, i < n → s0 i ≤ h i) (h2 : ∀ i, i < n → h i ≤ r → s0 i = h i) (hd : ∀ b, b < n → h b ≠ 0 → ∃ a, a < n ∧ done a b ∧ h b = h a + 1) (R : Relax n h s0 done s) : Rnd n h (r + 1) s := by
  obtain ⟨f, e, k1, k2⟩ := R
  refine ⟨f, e, fun i hi => (k1 i hi).2, fun i hi hr => ?_⟩
  have := k1 i hi
  by_cases z : h i = 0
  · omega
  · obtain ⟨a, ha, hda, hh⟩ := hd i hi z
    have := k2 a i hi hda
    have := h2 a ha (by omega)
    omega
end My

namespace My
open PySem L2 Sim PyProof.Rows
/-! ### the law's own heights -/
end My

namespace My
open PySem L2 Sim PyProof.Rows
/-! ### what an order answers -/
section
variable {n : Nat} {le : Nat → Nat → Bool} {j m : Nat → Nat → Nat} {o : m_Order}
end
end My

namespace My
open PySem L2 Sim PyProof.Rows
/-! ### small laws for what the laws compute themselves -/
/-! ### the law's own join, meet -/
section
variable {ms : List Nat}
end
end My

/-! what is asked: a table's askers, alike -/
namespace My
open PySem L2 Sim PyProof.Rows
/-- the asks so far, told by T, of these names, each once -/
structure Asks (ns : List Str) (T : Str → Nat) (s : List (Str × Int)) : Prop where
  nd : (s.map (·.1)).Nodup
  mem : ∀ q ∈ s, q.1 ∈ ns ∧ q.2 = (T q.1 : Int)
theorem Asks.nil {ns : List Str} {T : Str → Nat} : Asks ns T [] := ⟨List.nodup_nil, fun q hq => by cases hq⟩
theorem Asks.len {ns : List Str} {T : Str → Nat} {s : List (Str × Int)} (h : Asks ns T s) : s.length ≤ ns.length := by
  have := lsub h.nd (l2 := ns) fun x hx => by
    obtain ⟨q, hq, rfl⟩ := List.mem_map.mp hx
    exact (h.mem q hq).1
  rw [List.length_map] at this
  exact this
theorem Asks.look {ns : List Str} {T : Str → Nat} {s : List (Str × Int)} (h : Asks ns T s) (nm : Str) : lookM s nm = if nm ∈ s.map (·.1) then some (T nm : Int) else none := by
  split
  · rename_i hk
    obtain ⟨q, hq, rfl⟩ := List.mem_map.mp hk
    have := look_nd h.nd (k := q.1) (x := q.2) hq
    rw [this, (h.mem q hq).2]
  · rename_i hk
    cases e : lookM s nm with
    | none => rfl
    | some x => exact absurd (List.mem_map.mpr ⟨_, look_mem e, rfl⟩) hk
/-! ### a record made of asks -/
end My

namespace My
open PySem L2 Sim PyProof.Rows
section
variable {n : Nat} {le : Nat → Nat → Bool} {j m : Nat → Nat → Nat} {o : m_Order}
end
end My

namespace My
open PySem L2 Sim PyProof.Rows
section
variable {ms : List Nat} {a b : Nat}
end
end My

/-! drawn tables over all names -/
namespace My
open PySem L2 Sim PyProof.Rows
section
variable {ms : List Nat} {ns : List Str}
/-- a table over all names, its values drawn -/
structure Full (n : Nat) (ns : List Str) (d : List (Str × Int)) : Prop where
  keys : d.map (·.1) = ns
  rg : ∀ q ∈ d, ∃ k : Nat, k < n ∧ q.2 = (k : Int)
def TT (d : List (Str × Int)) (nm : Str) : Nat := ((lookM d nm).getD 0).toNat
theorem Full.look {n : Nat} {d : List (Str × Int)} (F : Full n ns d) (nd : ns.Nodup) {nm : Str} (h : nm ∈ ns) : lookM d nm = some (TT d nm : Int) ∧ TT d nm < n := by
  rw [← F.keys] at h
  obtain ⟨q, hq, rfl⟩ := List.mem_map.mp h
  have e := look_nd (by rw [F.keys]; exact nd) (k := q.1) (x := q.2) hq
  obtain ⟨k, hk, e2⟩ := F.rg q hq
  unfold TT
  rw [e, e2]
  exact ⟨rfl, by show (k : Int).toNat < n; omega⟩
end
end My

namespace My
open PySem L2 Sim PyProof.Rows
/-! ### what an order refuses -/
section
variable {n : Nat} {le : Nat → Nat → Bool} {j m : Nat → Nat → Nat} {o : m_Order}
end
end My

/-! two parts joined or met: the law's walk and the sides -/
namespace My
open PySem L2 Sim PyProof.Rows
section
variable {ms : List Nat} {ns : List Str} {z : Nat} {o : m_Order} {d : List (Str × Int)}
/-! ### what one evaluation tells -/
/-! ### two parts -/
end
end My

/-! the law: joined and met sides -/
namespace My
open PySem L2 Sim PyProof.Rows
section
variable {ms : List Nat} {ns : List Str} {z : Nat} {o : m_Order} {d : List (Str × Int)}
end
end My

set_option maxHeartbeats 0
namespace My
open PySem PySem.Spec PyProof.Rows L2 Sim
abbrev Rw1 : PySem.W.OpenRow := PySem.W.OpenLaw.row PySem.Challenge.rw_askedpoints_k16_joined_and_met_sides
abbrev hk : PySem.W.Hook := hookU (enA 5) fa fn ex xs gs sp tf P.main.file
def ob (s : PySem.W.SharedT) : AlT := obsUG (enA 5) fa fn ex xs gs sp tf P.main.file (HandSHeadRun.getT s)
def loose0 : List PySem.Str := ["_wall", "AskedError", "BadSize", "NotElement", "Ring", "NoJoin", "NoMeet", "AskedTwice", "Unanswered", "NoSide", "NotDue", "Record", "Asker", "TableAsker", "evaluate_side"]
def loose1 : List PySem.Str := ["closure", "turned", "least_above", "bounds_table", "first_ring", "first_lack", "longest", "neighbours", "Order", "Side", "Tell", "Copy", "Gate", "PairSide", "JoinSide"]
def loose2 : List PySem.Str := ["MeetSide", "_law_pot", "_law_draw", "_law_masks", "_law_under", "_law_join", "_law_meet", "_law_pairs", "_law_names", "_law_look", "_law_part", "_law_part_value", "_law_pair_due", "_law_stop", "_law_copying"]
def loose3 : List PySem.Str := ["_law_part_made", "_law_pair_got"]
def loose : List PySem.Str := loose0 ++ (loose1 ++ (loose2 ++ (loose3)))
theorem run_join {α β γ δ : Type} {x : Option α} {f : α → β × γ} {g : α → δ} {b : β} {c : γ} {d : δ} (h1 : x.map f = some (b, c)) (h2 : x.map g = some d) : x.map (fun s => ((f s).1, (f s).2, g s)) = some (b, c, d) := by
  cases x with
  | none => cases h1
  | some s =>
    have h1 : f s = (b, c) := Option.some.inj h1
    have h2 : g s = d := Option.some.inj h2
    show some ((f s).1, (f s).2, g s) = _
    rw [h1, h2]
section
open PySem.W PySem.Calls HandSHeadRun
theorem run_mk {r : PySem.W.OpenRow} {q : Program} {H : PySem.W.Hook} {ob : PySem.W.SharedT → H.α} {M : Nat} {loose : List PySem.Str} {w : World}
    (h1 : ∀ os : OsState, (endF (stepQ (denQ tabQ) r.prog w) M r.prog w os).map (fun s => (looksF r.prog (boot_heap w.params) s.abs, seenQ q loose (importedModules r.prog.main.body) (fun s => xlAt q [] s && recOk r.toRowW.records s) s.abs)) = some (true, openGood q loose))
    (h2 : ∀ os : OsState, (endF (stepQ (denQ tabQ) r.prog w) M r.prog w os).map ob = some (H.val w)) : RunEq r q H ob M loose w := fun os => run_join (h1 os) (h2 os)
theorem run1 (w : World) : ∀ os : OsState, (endF (stepQ (denQ tabQ) Rw1.prog w) 12000 Rw1.prog w os).map (fun s => (looksF Rw1.prog (boot_heap w.params) s.abs, seenQ (PySem.W.view Rw1.prog [54]) loose (importedModules Rw1.prog.main.body) (fun s => xlAt (PySem.W.view Rw1.prog [54]) [] s && recOk Rw1.toRowW.records s) s.abs)) = some (true, openGood (PySem.W.view Rw1.prog [54]) loose) := by
  intro os
  kernel_rfl
theorem run2 (w : World) : ∀ os : OsState, (endF (stepQ (denQ tabQ) Rw1.prog w) 12000 Rw1.prog w os).map ob = some (hk.val w) := by
  intro os
  kernel_rfl
theorem run (w : World) : RunEq Rw1 (PySem.W.view Rw1.prog [54]) hk ob 12000 loose w := run_mk (run1 w) (run2 w)
end
end My
open PySem PySem.W PySem.Calls PyProof.Rows
end
/-! Sim: what a reading does, told by plain Lean data (mirrors). -/
namespace Sim
open PySem L2 Evl

/-! ### heaps: the data heap G below the heap H -/
theorem Up.lay {G H : Hp} {p : Addr} {o : HO} (e : Ex G H) (n : H p = none) : Up G H (upd G p o) (upd H p o) := by
  refine ⟨Ex.new (fresh_back e n), fun a u h => ?_, Ex.new n, fun a h1 h2 => ?_⟩
  · by_cases q : a = p
    · subst q; rw [upd_same] at h ⊢; exact h
    · rw [upd_ne q] at h ⊢; exact e a u h
  · by_cases q : a = p
    · subst q; exact absurd n h1
    · rw [upd_ne q]; exact h2

/-! ### data as it stands in a heap -/
def rU : Rep Unit := ⟨fun _ v _ => v = .non, fun _ h => h⟩
def rA : Rep Addr := ⟨fun _ v a => v = .ref a, fun _ h => h⟩
theorem scI : rI.Sc := fun h => h
theorem scS : rS.Sc := fun h => h
def rT {α : Type} (R : Rep α) : Rep (List α) := ⟨fun H v xs => ∃ a vs, v = .ref a ∧ H a = some (.tup vs) ∧ Paired (R.r H) vs xs,
  fun e ⟨a, vs, h1, h2, h3⟩ => ⟨a, vs, h1, e a _ h2, Paired.mapP h3 fun _ _ => R.mono e⟩⟩
def rP {α β : Type} (R : Rep α) (S : Rep β) : Rep (α × β) := ⟨fun H v p => ∃ a x y, v = .ref a ∧ H a = some (.tup [x, y]) ∧ R.r H x p.1 ∧ S.r H y p.2,
  fun e ⟨a, x, y, h1, h2, h3, h4⟩ => ⟨a, x, y, h1, e a _ h2, R.mono e h3, S.mono e h4⟩⟩
theorem pr_get {R : V → α → Prop} : ∀ {vs : List V} {xs : List α} {i : Nat} {x : α}, Paired R vs xs → xs[i]? = some x → ∃ v, vs[i]? = some v ∧ R v x
  | _, _, _, _, .nil, e => by simp at e
  | _, _, 0, _, .cons r _, e => by simp at e; subst e; exact ⟨_, rfl, r⟩
  | _, _, i + 1, x, .cons _ t, e => by
    obtain ⟨u, h1, h2⟩ := pr_get (i := i) (x := x) t (by simpa using e)
    exact ⟨u, by simpa using h1, h2⟩
theorem pr_get' {R : V → α → Prop} : ∀ {vs : List V} {xs : List α} {i : Nat} {v : V}, Paired R vs xs → vs[i]? = some v → ∃ x, xs[i]? = some x ∧ R v x
  | _, _, _, _, .nil, e => by simp at e
  | _, _, 0, _, .cons r _, e => by simp at e; subst e; exact ⟨_, rfl, r⟩
  | _, _, i + 1, x, .cons _ t, e => by
    obtain ⟨u, h1, h2⟩ := pr_get' (i := i) (v := x) t (by simpa using e)
    exact ⟨u, by simpa using h1, h2⟩
theorem pr_app {R : V → α → Prop} : ∀ {vs : List V} {xs : List α} {vs' : List V} {xs' : List α}, Paired R vs xs → Paired R vs' xs' → Paired R (vs ++ vs') (xs ++ xs')
  | _, _, _, _, .nil, h => h
  | _, _, _, _, .cons r t, h => .cons r (pr_app t h)

/-! ### mirrors that may lack an answer -/
theorem bindS {α β : Type} {m : Option α} {f : α → Option β} {r : β} (h : (m >>= f) = some r) : ∃ x, m = some x ∧ f x = some r := by
  cases m with
  | none => exact absurd h (by simp)
  | some x => exact ⟨x, rfl, h⟩

/-! ### expressions -/
def aN : AR Unit := ⟨fun _ vs _ => vs = [], fun _ h => h⟩
def aC {α ι : Type} (R : Rep α) (A : AR ι) : AR (α × ι) := ⟨fun H vs p => ∃ v ws, vs = v :: ws ∧ R.r H v p.1 ∧ A.r H ws p.2,
  fun e ⟨v, ws, h1, h2, h3⟩ => ⟨v, ws, h1, R.mono e h2, A.mono e h3⟩⟩
section
variable {K : PySem.W.Frag} {σ : L2.St} {G H G' W W' : Hp} {ta tb te : TE} {t u : TT} {α β γ ι : Type} {R : Rep α} {S : Rep β} {T : Rep γ} {A : AR ι}
theorem e_var {i : Nat} {v : V} {x : α} (hi : σ[i]? = some (some v)) (hv : R.r G v x) : E (tVar i) σ G W R (some x) := fun y hy H e _ Q q => by
  cases hy
  exact ⟨v, hi, q v H G (Up.refl e) hv⟩
theorem e_c {v : V} {x : α} (hv : R.r G v x) : E (tC v) σ G W R (some x) := fun y hy H e _ Q q => by
  cases hy
  exact q v H G (Up.refl e) hv
theorem e_int {i : Int} : E (tC (.int i)) σ G W rI (some i) := e_c rfl
theorem e_bl {i : Bool} : E (tC (.bl i)) σ G W rB (some i) := e_c rfl
theorem e_str {i : Str} : E (tC (.str i)) σ G W rS (some i) := e_c rfl
theorem e_non : E (tC .non) σ G W rU (some ()) := e_c rfl
/-- an operator on values, as a mirror -/
def RR (r : R2) (R : Rep α) (S : Rep β) (T : Rep γ) (f : α → β → Option γ) : Prop :=
  ∀ v w x y z H G, R.r G v x → S.r G w y → f x y = some z → Ex G H → ∀ Q : VK, (∀ u H2 G2, Up G H G2 H2 → T.r G2 u z → Q u H2) → r v w H Q
theorem e_op {r : R2} {f : α → β → Option γ} {ma : Option α} {mb : Option β} (hr : RR r R S T f) (ha : E ta σ G W R ma) (hb : E tb σ G W S mb) :
    E (tOp r ta tb) σ G W T (ma >>= fun x => mb >>= fun y => f x y) := fun z hz H e e' Q q => by
  obtain ⟨x, hx, hz⟩ := bindS hz
  obtain ⟨y, hy, hz⟩ := bindS hz
  refine ha x hx H e e' _ fun v H1 G1 u1 r1 => ?_
  refine (hb.mono u1.gg (e'.trans u1.hh)) y hy H1 u1.gh (Ex.refl _) _ fun w H2 G2 u2 r2 => ?_
  exact hr v w x y z H2 G2 (R.mono u2.gg r1) r2 hz u2.gh Q fun u H3 G3 u3 r3 => q u H3 G3 ((u1.trans u2).trans u3) r3
theorem rr_I0 {g : Int → Int → V} {f : Int → Int → γ} (h : ∀ i j H, T.r H (g i j) (f i j)) : RR (rI0 g) rI rI T (fun i j => some (f i j)) := fun v w x y z H G hv hw hz e Q q => by
  cases hv; cases hw; cases hz
  exact ⟨x, y, rfl, rfl, q _ H G (Up.refl e) (h x y G)⟩
theorem rr_I {C : Int → Int → Prop} {g : Int → Int → V} {f : Int → Int → Option γ} (h : ∀ i j z, f i j = some z → C i j ∧ ∀ H, T.r H (g i j) z) : RR (L2.rI C g) rI rI T f := fun v w x y z H G hv hw hz e Q q => by
  cases hv; cases hw
  obtain ⟨h1, h2⟩ := h x y z hz
  exact ⟨x, y, rfl, rfl, h1, q _ H G (Up.refl e) (h2 G)⟩
end
end Sim

namespace Sim
open PySem L2 Evl

/-! ### cells: objects that change -/
section
variable {G H G2 H2 : Hp} {cs : Cs} {l : Addr} {cp cp' : CP}
theorem Wd.tail (w : Wd G H ((l, cp) :: cs)) : Wd G H cs := ⟨w.ex, fun c h => w.at_ c (List.mem_cons_of_mem _ h), (List.nodup_cons.mp w.nd).2⟩
theorem Wd.swap {l' : Addr} (w : Wd G H ((l, cp) :: (l', cp') :: cs)) : Wd G H ((l', cp') :: (l, cp) :: cs) := ⟨w.ex, fun c h => w.at_ c (by
  rcases List.mem_cons.mp h with h | h
  · subst h; exact List.mem_cons_of_mem _ (List.mem_cons_self ..)
  · rcases List.mem_cons.mp h with h | h
    · subst h; exact List.mem_cons_self ..
    · exact List.mem_cons_of_mem _ (List.mem_cons_of_mem _ h)), by
  have := w.nd
  simp only [List.map_cons, List.nodup_cons, List.mem_cons, not_or] at this ⊢
  exact ⟨⟨fun z => this.1.1 z.symm, this.2.1⟩, this.1.2, this.2.2⟩⟩
/-- the first cell is written -/
theorem Wd.write (w : Wd G H ((l, cp) :: cs)) {o : HO} (h : cp'.p G o) : Wd G (upd H l o) ((l, cp') :: cs) := by
  refine ⟨fun a u e => ?_, fun c hc => ?_, w.nd⟩
  · rw [upd_ne (fun z => by subst z; rw [w.head.1] at e; cases e)]; exact w.ex a u e
  · rcases List.mem_cons.mp hc with hc | hc
    · subst hc; exact ⟨w.head.1, o, upd_same, h⟩
    · obtain ⟨h1, o', h2, h3⟩ := w.tail.at_ c hc
      have hne : c.1 ≠ l := fun z => (List.nodup_cons.mp w.nd).1 (by rw [← z]; exact List.mem_map_of_mem (f := (·.1)) hc)
      exact ⟨h1, o', by rw [upd_ne hne]; exact h2, h3⟩
end
/-! ### promises -/
/-- what is handed back is data -/
def PF {ι α : Type} (A : AR ι) (R : Rep α) (f : ι → Option α) : Sp := fun vs H Q _ => ∃ G i x, Ex G H ∧ A.r G vs i ∧ f i = some x ∧ ∀ v H2 G2, Up G H G2 H2 → R.r G2 v x → Q v H2
/-- a new list is handed back -/
def PL {ι α : Type} (A : AR ι) (R : Rep α) (f : ι → Option (List α)) : Sp := fun vs H Q _ => ∃ G i x, Ex G H ∧ A.r G vs i ∧ f i = some x ∧
  ∀ p H2 G2, H p = none → Up G H G2 H2 → Wd G2 H2 [(p, cL R x)] → Q (.ref p) H2
def PM {ι κ α : Type} (A : AR ι) (ci : ι → κ → Cs) (R : Rep α) (f : ι → κ → Option (α × κ)) : Sp := fun vs H Q _ => ∃ G i k x k', A.r G vs i ∧ Wd G H (ci i k) ∧ f i k = some (x, k') ∧
  ∀ v H2 G2, Fr G H G2 H2 ((ci i k).map (·.1)) → Wd G2 H2 (ci i k') → R.r G2 v x → Q v H2
def PML {ι κ α : Type} (A : AR ι) (ci : ι → κ → Cs) (R : Rep α) (f : ι → κ → Option (List α × κ)) : Sp := fun vs H Q _ => ∃ G i k x k', A.r G vs i ∧ Wd G H (ci i k) ∧ f i k = some (x, k') ∧
  ∀ p H2 G2, H p = none → Fr G H G2 H2 ((ci i k).map (·.1)) → Wd G2 H2 ((p, cL R x) :: ci i k') → Q (.ref p) H2
theorem Wd.app {G H : Hp} {a b : Cs} (w : Wd G H (a ++ b)) : Wd G H a ∧ Wd G H b := ⟨⟨w.ex, fun c h => w.at_ c (List.mem_append_left _ h), by
  have := w.nd; rw [List.map_append] at this; exact (List.nodup_append.mp this).1⟩, ⟨w.ex, fun c h => w.at_ c (List.mem_append_right _ h), by
  have := w.nd; rw [List.map_append] at this; exact (List.nodup_append.mp this).2.1⟩⟩
theorem Wd.join {G H G2 H2 : Hp} {a a' b : Cs} (w : Wd G H (a ++ b)) (f : Fr G H G2 H2 (a.map (·.1))) (w2 : Wd G2 H2 a') (e : a'.map (·.1) = a.map (·.1)) : Wd G2 H2 (a' ++ b) := by
  have nd : (a.map (·.1) ++ b.map (·.1)).Nodup := by have := w.nd; rw [List.map_append] at this; exact this
  refine ⟨w2.ex, fun c h => ?_, by rw [List.map_append, e]; exact nd⟩
  rcases List.mem_append.mp h with h | h
  · exact w2.at_ c h
  · obtain ⟨h1, o, h2, h3⟩ := w.app.2.at_ c h
    have hn : c.1 ∉ a.map (·.1) := fun z => (List.nodup_append.mp nd).2.2 _ z _ (List.mem_map_of_mem h) rfl
    exact ⟨f.nw _ (by rw [h2]; simp) h1, o, f.fr _ _ h2 hn, c.2.mono f.gg h3⟩
theorem Fr.write {G H : Hp} {l : Addr} {o : HO} : Fr G H G (upd H l o) [l] := ⟨Ex.refl _, fun a u h1 h2 => by rw [upd_ne (fun z => h2 (by rw [z]; exact List.mem_cons_self ..))]; exact h1, fun _ _ h => h, fun a h => by
  by_cases q : a = l
  · subst q; rw [upd_same]; simp
  · rw [upd_ne q]; exact h⟩
end Sim

namespace Sim
open PySem L2 Evl
section
variable {K : PySem.W.Frag} {σ : L2.St} {G H G' W W' : Hp} {ta tb te tc : TE} {t u : TT} {α β γ ι κ : Type} {R : Rep α} {S : Rep β} {T : Rep γ} {A : AR ι}

/-! ### mirrors of operations that may lack an answer -/
def mulM (a b : Int) : Option Int := if (-(2 ^ 64) < a ∧ a < 2 ^ 64) ∨ (-(2 ^ 64) < b ∧ b < 2 ^ 64) then some (a * b) else none
def modM (a b : Int) : Option Int := if 0 < b then some (a % b) else none
def fdivM (a b : Int) : Option Int := if 0 < b ∧ b < 1073741824 then some (a / b) else none
def andO (a : Option Bool) (b : Option Bool) : Option Bool := a >>= fun x => bif x then b else some false
def orO (a : Option Bool) (b : Option Bool) : Option Bool := a >>= fun x => bif x then some true else b
theorem rr_add : RR (rI0 fun i j => .int (i + j)) rI rI rI (fun i j => some (i + j)) := rr_I0 fun _ _ _ => rfl
theorem rr_mul : RR (L2.rI CMul fun i j => .int (i * j)) rI rI rI mulM := rr_I fun i j z h => by
  unfold mulM at h
  split at h
  · rename_i hc; cases h; exact ⟨hc, fun _ => rfl⟩
  · cases h
theorem rr_mod : RR (L2.rI (fun _ j => 0 < j) fun i j => .int (i % j)) rI rI rI modM := rr_I fun i j z h => by
  unfold modM at h
  split at h
  · rename_i hc; cases h; exact ⟨hc, fun _ => rfl⟩
  · cases h
theorem rr_fdiv : RR (L2.rI CDiv fun i j => .int (i / j)) rI rI rI fdivM := rr_I fun i j z h => by
  unfold fdivM at h
  split at h
  · rename_i hc; cases h; exact ⟨hc, fun _ => rfl⟩
  · cases h
theorem rr_and : RR (rI0 fun i j => .int (Builtin.bitAnd i j)) rI rI rI (fun i j => some (Builtin.bitAnd i j)) := rr_I0 fun _ _ _ => rfl
theorem rr_or : RR (rI0 fun i j => .int (Builtin.bitOr i j)) rI rI rI (fun i j => some (Builtin.bitOr i j)) := rr_I0 fun _ _ _ => rfl
theorem rr_lt : RR (rI0 fun i j => .bl (decide (i < j))) rI rI rB (fun i j => some (decide (i < j))) := rr_I0 fun _ _ _ => rfl
theorem rr_le : RR (rI0 fun i j => .bl (decide (i ≤ j))) rI rI rB (fun i j => some (decide (i ≤ j))) := rr_I0 fun _ _ _ => rfl
theorem rr_gt : RR (rI0 fun i j => .bl (decide (j < i))) rI rI rB (fun i j => some (decide (j < i))) := rr_I0 fun _ _ _ => rfl
theorem rr_ge : RR (rI0 fun i j => .bl (decide (j ≤ i))) rI rI rB (fun i j => some (decide (j ≤ i))) := rr_I0 fun _ _ _ => rfl
theorem rr_eqI : RR rEq rI rI rB (fun i j => some (i == j)) := fun v w x y z H G hv hw hz e Q q => by
  cases hv; cases hw; cases hz
  exact ⟨rfl, q _ H G (Up.refl e) (congrArg V.bl dec_int)⟩
theorem rr_neI : RR rNe rI rI rB (fun i j => some (!(i == j))) := fun v w x y z H G hv hw hz e Q q => by
  cases hv; cases hw; cases hz
  exact ⟨rfl, q _ H G (Up.refl e) (congrArg (fun b => V.bl (!b)) dec_int)⟩
theorem rr_eqB : RR rEq rB rB rB (fun i j => some (i == j)) := fun v w x y z H G hv hw hz e Q q => by
  cases hv; cases hw; cases hz
  exact ⟨rfl, q _ H G (Up.refl e) (congrArg V.bl dec_bl)⟩
theorem rr_neB : RR rNe rB rB rB (fun i j => some (!(i == j))) := fun v w x y z H G hv hw hz e Q q => by
  cases hv; cases hw; cases hz
  exact ⟨rfl, q _ H G (Up.refl e) (congrArg (fun b => V.bl (!b)) dec_bl)⟩
theorem rr_eqS : RR rEq rS rS rB (fun i j => some (decide (i = j))) := fun v w x y z H G hv hw hz e Q q => by
  cases hv; cases hw; cases hz
  refine ⟨rfl, q _ H G (Up.refl e) (congrArg V.bl ?_)⟩
  by_cases h : x = y
  · subst h; simp
  · have : ¬ V.str x = V.str y := fun z => h (V.str.inj z)
    simp [h, this]
theorem rr_neS : RR rNe rS rS rB (fun i j => some (!decide (i = j))) := fun v w x y z H G hv hw hz e Q q => by
  cases hv; cases hw; cases hz
  refine ⟨rfl, q _ H G (Up.refl e) (congrArg (fun b => V.bl (!b)) ?_)⟩
  by_cases h : x = y
  · subst h; simp
  · have : ¬ V.str x = V.str y := fun z => h (V.str.inj z)
    simp [h, this]
theorem rr_ixL : RR (rIxL K) (rL R) rI R (fun xs i => atI xs i) := fun v w xs i z H G hv hw hz e Q q => by
  obtain ⟨a, vs, rfl, h2, h3⟩ := hv
  cases hw
  have hz' : (ixN xs.length i).bind (fun j => xs[j]?) = some z := hz
  cases hj : ixN xs.length i with
  | none => rw [hj] at hz'; cases hz'
  | some j =>
    rw [hj] at hz'
    obtain ⟨y, h4, h5⟩ := pr_get h3 (show xs[j]? = some z from hz')
    refine ⟨a, vs, i, y, rfl, rfl, Or.inl (Or.inl (e a _ h2)), ?_, q y H G (Up.refl e) h5⟩
    show (ixN vs.length i).bind (fun j => vs[j]?) = some y
    rw [h3.length, hj]; exact h4
/-- p[0], p[1] of a pair -/
theorem e_fst {m : Option (α × β)} (h : E ta σ G W (rP R S) m) : E (tOp (rIxT K) ta (tC (.int 0))) σ G W R (m >>= fun p => some p.1) := fun z hz H e e' Q q => by
  obtain ⟨x, hx, hz⟩ := bindS hz
  cases hz
  refine h x hx H e e' _ fun v H1 G1 u1 r1 => ?_
  obtain ⟨a, y, w, rfl, h2, h3, h4⟩ := r1
  exact ⟨a, [y, w], 0, y, rfl, rfl, Or.inl (Or.inl (u1.gh a _ h2)), rfl, q y H1 G1 u1 h3⟩
theorem e_snd {m : Option (α × β)} (h : E ta σ G W (rP R S) m) : E (tOp (rIxT K) ta (tC (.int 1))) σ G W S (m >>= fun p => some p.2) := fun z hz H e e' Q q => by
  obtain ⟨x, hx, hz⟩ := bindS hz
  cases hz
  refine h x hx H e e' _ fun v H1 G1 u1 r1 => ?_
  obtain ⟨a, y, w, rfl, h2, h3, h4⟩ := r1
  exact ⟨a, [y, w], 1, w, rfl, rfl, Or.inl (Or.inl (u1.gh a _ h2)), rfl, q w H1 G1 u1 h4⟩
/-- never None -/
def Rep.NN (R : Rep α) : Prop := ∀ {H : Hp} {v : V} {x : α}, R.r H v x → v ≠ .non
theorem nnI : rI.NN := fun h => by rw [show _ = V.int _ from h]; simp
theorem nnL : (rL R).NN := fun ⟨a, _, h, _⟩ => by rw [h]; simp
theorem nnP : (rP R S).NN := fun ⟨a, _, _, h, _⟩ => by rw [h]; simp
theorem rr_isN (nn : R.NN) : RR (fun x y H Q => y = .non ∧ Q (.bl (decide (x = .non))) H) (rO R) rU rB (fun o _ => some o.isNone) := fun v w o y z H G hv hw hz e Q q => by
  cases hz
  refine ⟨hw, q _ H G (Up.refl e) ?_⟩
  cases o with
  | none => have : v = .non := hv; subst this; rfl
  | some x => exact congrArg V.bl (decide_eq_false (nn hv))
theorem rr_notN (nn : R.NN) : RR (fun x y H Q => y = .non ∧ Q (.bl (!decide (x = .non))) H) (rO R) rU rB (fun o _ => some o.isSome) := fun v w o y z H G hv hw hz e Q q => by
  cases hz
  refine ⟨hw, q _ H G (Up.refl e) ?_⟩
  cases o with
  | none => have : v = .non := hv; subst this; rfl
  | some x => exact congrArg (fun b => V.bl (!b)) (decide_eq_false (nn hv))
/-- flat values: in -/
structure FlR (R : Rep α) (eq : α → α → Bool) : Prop where
  fl : ∀ {H : Hp} {v : V} {x : α}, R.r H v x → flatV v = true
  eq : ∀ {H H' : Hp} {v w : V} {x y : α}, R.r H v x → R.r H' w y → eqV v w = eq x y
theorem flI : FlR rI (fun a b => a == b) := ⟨fun h => by rw [show _ = V.int _ from h]; rfl, fun h h' => by rw [show _ = V.int _ from h, show _ = V.int _ from h']; rfl⟩
theorem flS : FlR rS (fun a b => a == b) := ⟨fun h => by rw [show _ = V.str _ from h]; rfl, fun h h' => by rw [show _ = V.str _ from h, show _ = V.str _ from h']; rfl⟩
theorem pr_inV {eq : α → α → Bool} (f : FlR R eq) {H H' : Hp} {v : V} {x : α} (hv : R.r H' v x) : ∀ {vs : List V} {xs : List α}, Paired (R.r H) vs xs → inV v vs = xs.any (fun y => eq y x) ∧ vs.all flatV = true
  | _, _, .nil => ⟨rfl, rfl⟩
  | _, _, .cons r t => by
    obtain ⟨h1, h2⟩ := pr_inV f hv t
    refine ⟨?_, ?_⟩
    · show (eqV _ v || _) = (eq _ x || _)
      rw [f.eq r hv]; exact congrArg _ h1
    · show (flatV _ && _) = true
      rw [f.fl r]; exact h2
theorem rr_inL {eq : α → α → Bool} (f : FlR R eq) : RR (rIn K false) R (rL R) rB (fun x xs => some (xs.any fun y => eq y x)) := fun v w x xs z H G hv hw hz e Q q => by
  cases hz
  obtain ⟨a, vs, rfl, h2, h3⟩ := hw
  obtain ⟨h4, h5⟩ := pr_inV f hv h3
  refine ⟨a, vs, rfl, Or.inl (Or.inl (Or.inl (e a _ h2))), f.fl hv, h5, q _ H G (Up.refl e) (congrArg V.bl ?_)⟩
  exact h4
theorem rr_ninL {eq : α → α → Bool} (f : FlR R eq) : RR (rIn K true) R (rL R) rB (fun x xs => some (!xs.any fun y => eq y x)) := fun v w x xs z H G hv hw hz e Q q => by
  cases hz
  obtain ⟨a, vs, rfl, h2, h3⟩ := hw
  obtain ⟨h4, h5⟩ := pr_inV f hv h3
  refine ⟨a, vs, rfl, Or.inl (Or.inl (Or.inl (e a _ h2))), f.fl hv, h5, q _ H G (Up.refl e) (congrArg V.bl ?_)⟩
  exact congrArg (fun b => !b) h4

/-! ### and, or, not, if -/
theorem e_andV {a b : Option Bool} (h1 : E ta σ G W rB a) (h2 : E tb σ G W rB b) : E (tAndV ta tb) σ G W rB (andO a b) := fun z hz H e e' Q q => by
  obtain ⟨x, hx, hz⟩ := bindS hz
  refine h1 x hx H e e' _ fun v H1 G1 u1 r1 => ⟨x, r1, ?_⟩
  cases x with
  | true => exact (h2.mono u1.gg (e'.trans u1.hh)) z hz H1 u1.gh (Ex.refl _) Q fun v H2 G2 u2 r2 => q v H2 G2 (u1.trans u2) r2
  | false => cases hz; exact q _ H1 G1 u1 rfl
theorem e_orV {a b : Option Bool} (h1 : E ta σ G W rB a) (h2 : E tb σ G W rB b) : E (tOrV ta tb) σ G W rB (orO a b) := fun z hz H e e' Q q => by
  obtain ⟨x, hx, hz⟩ := bindS hz
  refine h1 x hx H e e' _ fun v H1 G1 u1 r1 => ⟨x, r1, ?_⟩
  cases x with
  | false => exact (h2.mono u1.gg (e'.trans u1.hh)) z hz H1 u1.gh (Ex.refl _) Q fun v H2 G2 u2 r2 => q v H2 G2 (u1.trans u2) r2
  | true => cases hz; exact q _ H1 G1 u1 rfl
theorem et_T {m : Option Bool} (h : E te σ W W rB m) : ET (tTest te) σ W m := fun b hb H e Q q => h b hb H e e _ fun v H2 G2 u r => ⟨b, r, q H2 u.hh⟩
theorem et_B {m : Option Bool} (h : E te σ W W rB m) : ET (tB te) σ W m := fun b hb H e Q q => h b hb H e e _ fun v H2 G2 u r => ⟨b, r, q H2 u.hh⟩
theorem et_and {a b : Option Bool} (h1 : ET t σ G a) (h2 : ET u σ G b) : ET (tAnd t u) σ G (andO a b) := fun z hz H e Q q => by
  obtain ⟨x, hx, hz⟩ := bindS hz
  refine h1 x hx H e _ fun H1 e1 => ?_
  cases x with
  | true => exact h2 z hz H1 (e.trans e1) Q fun H2 e2 => q H2 (e1.trans e2)
  | false => cases hz; exact q H1 e1
theorem et_or {a b : Option Bool} (h1 : ET t σ G a) (h2 : ET u σ G b) : ET (tOr t u) σ G (orO a b) := fun z hz H e Q q => by
  obtain ⟨x, hx, hz⟩ := bindS hz
  refine h1 x hx H e _ fun H1 e1 => ?_
  cases x with
  | false => exact h2 z hz H1 (e.trans e1) Q fun H2 e2 => q H2 (e1.trans e2)
  | true => cases hz; exact q H1 e1
theorem et_not {a : Option Bool} (h1 : ET t σ G a) : ET (tNot t) σ G (a >>= fun x => some (!x)) := fun z hz H e Q q => by
  obtain ⟨x, hx, hz⟩ := bindS hz
  cases hz
  exact h1 x hx H e _ fun H1 e1 => q H1 e1

/-! ### arguments, calls -/
theorem ea_nil : EA tNil σ G W aN (some ()) := fun x hx H e e' Q q => q [] H G (Up.refl e) rfl
theorem ea_cons {tr : TA} {ma : Option α} {mr : Option ι} (h : E ta σ G W R ma) (hr : EA tr σ G W A mr) : EA (tCons ta tr) σ G W (aC R A) (ma >>= fun x => mr >>= fun y => some (x, y)) := fun z hz H e e' Q q => by
  obtain ⟨x, hx, hz⟩ := bindS hz
  obtain ⟨y, hy, hz⟩ := bindS hz
  cases hz
  refine h x hx H e e' _ fun v H1 G1 u1 r1 => ?_
  refine (hr.mono u1.gg (e'.trans u1.hh)) y hy H1 u1.gh (Ex.refl _) _ fun w H2 G2 u2 r2 => ?_
  exact q (v :: w) H2 G2 (u1.trans u2) ⟨v, w, rfl, R.mono u2.gg r1, r2⟩
def RC (r : List V → Hp → VK → Prop) (A : AR ι) (T : Rep γ) (f : ι → Option γ) : Prop :=
  ∀ vs i z H G, A.r G vs i → f i = some z → Ex G H → ∀ Q : VK, (∀ u H2 G2, Up G H G2 H2 → T.r G2 u z → Q u H2) → r vs H Q
def RCL (r : List V → Hp → VK → Prop) (A : AR ι) (T : Rep γ) (f : ι → Option (List γ)) : Prop :=
  ∀ vs i z H G, A.r G vs i → f i = some z → Ex G H → ∀ Q : VK, (∀ p H2 G2, H p = none → Up G H G2 H2 → Wd G2 H2 [(p, cL T z)] → Q (.ref p) H2) → r vs H Q
theorem e_cb {r : List V → Hp → VK → Prop} {f : ι → Option γ} {ta : TA} {m : Option ι} (hr : RC r A T f) (ha : EA ta σ G W A m) : E (tCB r ta) σ G W T (m >>= f) := fun z hz H e e' Q q => by
  obtain ⟨i, hi, hz⟩ := bindS hz
  refine ha i hi H e e' _ fun vs H1 G1 u1 r1 => ?_
  exact hr vs i z H1 G1 r1 hz u1.gh Q fun u H2 G2 u2 r2 => q u H2 G2 (u1.trans u2) r2
theorem el_cb {r : List V → Hp → VK → Prop} {f : ι → Option (List γ)} {ta : TA} {m : Option ι} (hr : RCL r A T f) (ha : EA ta σ G W A m) : EL (tCB r ta) σ G W T (m >>= f) := fun z hz H e e' Q q => by
  obtain ⟨i, hi, hz⟩ := bindS hz
  refine ha i hi H e e' _ fun vs H1 G1 u1 r1 => ?_
  exact hr vs i z H1 G1 r1 hz u1.gh Q fun p H2 G2 hp u2 w => q p H2 G2 (fresh_back u1.hh hp) (u1.trans u2) w
theorem e_call {f : ι → Option γ} {ta : TA} {m : Option ι} {X : XK} (ha : EA ta σ G W A m) : E (tCall (PF A T f) [] X ta) σ G W T (m >>= f) := fun z hz H e e' Q q => by
  obtain ⟨i, hi, hz⟩ := bindS hz
  refine ha i hi H e e' _ fun vs H1 G1 u1 r1 => ?_
  rw [List.append_nil]
  exact ⟨G1, i, z, u1.gh, r1, hz, fun v H2 G2 u2 r2 => q v H2 G2 (u1.trans u2) r2⟩
theorem el_call {f : ι → Option (List γ)} {ta : TA} {m : Option ι} {X : XK} (ha : EA ta σ G W A m) : EL (tCall (PL A T f) [] X ta) σ G W T (m >>= f) := fun z hz H e e' Q q => by
  obtain ⟨i, hi, hz⟩ := bindS hz
  refine ha i hi H e e' _ fun vs H1 G1 u1 r1 => ?_
  rw [List.append_nil]
  exact ⟨G1, i, z, u1.gh, r1, hz, fun p H2 G2 hp u2 w => q p H2 G2 (fresh_back u1.hh hp) (u1.trans u2) w⟩

/-! ### built-ins -/
def sz (n : Nat) : Bool := decide (n < 100000)
theorem sz_l {n : Nat} (h : sz n = true) : n < sizeLine := sz_lt (of_decide_eq_true h)
abbrev rLn (K : PySem.W.Frag) : List V → Hp → VK → Prop := fun xs H Q => ∃ p ys, xs = [.ref p] ∧ (SqL K H p ys ∨ SqT K H p ys) ∧ Q (.int ys.length) H
theorem rc_lenL : RC (rLn K) (aC (rL R) aN) rI (fun i => some (i.1.length : Int)) := fun vs i z H G hv hz e Q q => by
  cases hz
  obtain ⟨v, ws, rfl, ⟨a, us, rfl, h2, h3⟩, rfl⟩ := hv
  refine ⟨a, us, rfl, Or.inl (Or.inl (Or.inl (e a _ h2))), q _ H G (Up.refl e) ?_⟩
  show V.int _ = V.int _
  rw [h3.length]
abbrev rLs (K : PySem.W.Frag) : List V → Hp → VK → Prop := fun xs H Q => ∃ p ys, xs = [.ref p] ∧ (SqL K H p ys ∨ SqT K H p ys) ∧ ∀ l, H l = none → Q (.ref l) (upd H l (.lst ys))
theorem wd_new {vs : List V} {xs : List α} {p : Addr} (e : Ex G H) (n : H p = none) (h : Paired (R.r G) vs xs) : Wd G (upd H p (.lst vs)) [(p, cL R xs)] := (Wd.nil e).new n ⟨vs, rfl, h⟩
theorem up_new {p : Addr} {o : HO} (e : Ex G H) (n : H p = none) : Up G H G (upd H p o) := Up.same e (Ex.new n)
theorem rc_listL : RCL (rLs K) (aC (rL R) aN) R (fun i => some i.1) := fun vs i z H G hv hz e Q q => by
  cases hz
  obtain ⟨v, ws, rfl, ⟨a, us, rfl, h2, h3⟩, rfl⟩ := hv
  exact ⟨a, us, rfl, Or.inl (Or.inl (Or.inl (e a _ h2))), fun l hl => q l _ G hl (up_new e hl) (wd_new e hl h3)⟩
theorem rc_listT : RCL (rLs K) (aC (rT R) aN) R (fun i => some i.1) := fun vs i z H G hv hz e Q q => by
  cases hz
  obtain ⟨v, ws, rfl, ⟨a, us, rfl, h2, h3⟩, rfl⟩ := hv
  exact ⟨a, us, rfl, Or.inr (Or.inl (Or.inl (e a _ h2))), fun l hl => q l _ G hl (up_new e hl) (wd_new e hl h3)⟩
abbrev rTp (K : PySem.W.Frag) : List V → Hp → VK → Prop := fun xs H Q => ∃ p ys, xs = [.ref p] ∧ ((SqL K H p ys ∧ ∀ l, H l = none → Q (.ref l) (upd H l (.tup ys))) ∨ (SqT K H p ys ∧ Q (.ref p) H))
theorem rc_tupleL : RC (rTp K) (aC (rL R) aN) (rT R) (fun i => some i.1) := fun vs i z H G hv hz e Q q => by
  cases hz
  obtain ⟨v, ws, rfl, ⟨a, us, rfl, h2, h3⟩, rfl⟩ := hv
  refine ⟨a, us, rfl, Or.inl ⟨Or.inl (Or.inl (e a _ h2)), fun l hl => q _ _ _ (Up.lay e hl) ⟨l, us, rfl, upd_same, Paired.mapP h3 fun _ _ => R.mono (Ex.new (fresh_back e hl))⟩⟩⟩
abbrev rAbs : List V → Hp → VK → Prop := fun xs H Q => ∃ i, xs = [.int i] ∧ Q (.int (if i < 0 then -i else i)) H
theorem rc_abs : RC rAbs (aC rI aN) rI (fun i => some (if i.1 < 0 then -i.1 else i.1)) := fun vs i z H G hv hz e Q q => by
  cases hz
  obtain ⟨v, ws, rfl, rfl, rfl⟩ := hv
  exact ⟨_, rfl, q _ H G (Up.refl e) rfl⟩
abbrev rMx : List V → Hp → VK → Prop := fun xs H Q => ∃ i j, xs = [.int i, .int j] ∧ Q (.int (if j > i then j else i)) H
abbrev rMn : List V → Hp → VK → Prop := fun xs H Q => ∃ i j, xs = [.int i, .int j] ∧ Q (.int (if j < i then j else i)) H
theorem rc_max2 : RC rMx (aC rI (aC rI aN)) rI (fun i => some (if i.2.1 > i.1 then i.2.1 else i.1)) := fun vs i z H G hv hz e Q q => by
  cases hz
  obtain ⟨v, ws, rfl, rfl, v2, ws2, rfl, rfl, rfl⟩ := hv
  exact ⟨_, _, rfl, q _ H G (Up.refl e) rfl⟩
theorem rc_min2 : RC rMn (aC rI (aC rI aN)) rI (fun i => some (if i.2.1 < i.1 then i.2.1 else i.1)) := fun vs i z H G hv hz e Q q => by
  cases hz
  obtain ⟨v, ws, rfl, rfl, v2, ws2, rfl, rfl, rfl⟩ := hv
  exact ⟨_, _, rfl, q _ H G (Up.refl e) rfl⟩
abbrev rInt : List V → Hp → VK → Prop := fun xs H Q => (∃ i, xs = [.int i] ∧ Q (.int i) H) ∨ ∃ k, xs = [.bl k] ∧ Q (.int (if k then 1 else 0)) H
theorem rc_intI : RC rInt (aC rI aN) rI (fun i => some i.1) := fun vs i z H G hv hz e Q q => by
  cases hz
  obtain ⟨v, ws, rfl, rfl, rfl⟩ := hv
  exact Or.inl ⟨_, rfl, q _ H G (Up.refl e) rfl⟩
theorem rc_intB : RC rInt (aC rB aN) rI (fun i => some (if i.1 then 1 else 0)) := fun vs i z H G hv hz e Q q => by
  cases hz
  obtain ⟨v, ws, rfl, rfl, rfl⟩ := hv
  exact Or.inr ⟨_, rfl, q _ H G (Up.refl e) rfl⟩
theorem pr_ints {H : Hp} : ∀ {vs : List V} {xs : List Int}, Paired (rI.r H) vs xs → vs = xs.map V.int
  | _, _, .nil => rfl
  | _, _, .cons r t => by rw [show _ = V.int _ from r, pr_ints t]; rfl
theorem ints_pr {H : Hp} : ∀ (xs : List Int), Paired (rI.r H) (xs.map V.int) xs
  | [] => .nil
  | x :: xs => .cons rfl (ints_pr xs)
/-- the sorted list, the least, the greatest: plain mirrors -/
def insI (x : Int) : List Int → List Int
  | [] => [x]
  | y :: ys => if x ≤ y then x :: y :: ys else y :: insI x ys
def srtI : List Int → List Int
  | [] => []
  | x :: xs => insI x (srtI xs)
theorem insI_perm (x : Int) : ∀ ys, (insI x ys).Perm (x :: ys)
  | [] => .refl _
  | y :: ys => by
    unfold insI
    split
    · exact .refl _
    · exact (List.Perm.cons y (insI_perm x ys)).trans (.swap x y ys)
theorem srtI_perm : ∀ xs, (srtI xs).Perm xs
  | [] => .refl _
  | x :: xs => (insI_perm x _).trans (.cons x (srtI_perm xs))
theorem insI_sorted (x : Int) : ∀ {ys : List Int}, ys.Pairwise (· ≤ ·) → (insI x ys).Pairwise (· ≤ ·)
  | [], _ => by simp [insI]
  | y :: ys, h => by
    unfold insI
    split
    · rename_i hxy
      refine List.pairwise_cons.mpr ⟨fun z hz => ?_, h⟩
      rcases List.mem_cons.mp hz with hz | hz
      · subst hz; exact hxy
      · exact Int.le_trans hxy ((List.pairwise_cons.mp h).1 z hz)
    · rename_i hxy
      refine List.pairwise_cons.mpr ⟨fun z hz => ?_, insI_sorted x (List.pairwise_cons.mp h).2⟩
      rcases List.mem_cons.mp ((insI_perm x ys).mem_iff.mp hz) with hz | hz
      · subst hz; omega
      · exact (List.pairwise_cons.mp h).1 z hz
theorem srtI_sorted : ∀ xs, (srtI xs).Pairwise (· ≤ ·)
  | [] => List.Pairwise.nil
  | x :: xs => insI_sorted x (srtI_sorted xs)
theorem srt_uniq : ∀ {xs ys : List Int}, xs.Perm ys → xs.Pairwise (· ≤ ·) → ys.Pairwise (· ≤ ·) → xs = ys
  | [], ys, p, _, _ => by simpa using p.symm.eq_nil
  | x :: xs, [], p, _, _ => by simpa using p.eq_nil
  | x :: xs, y :: ys, p, hx, hy => by
    have h1 : x ≤ y := by
      rcases List.mem_cons.mp (p.symm.subset (List.mem_cons_self ..) : y ∈ x :: xs) with h | h
      · omega
      · exact (List.pairwise_cons.mp hx).1 y h
    have h2 : y ≤ x := by
      rcases List.mem_cons.mp (p.subset (List.mem_cons_self ..) : x ∈ y :: ys) with h | h
      · omega
      · exact (List.pairwise_cons.mp hy).1 x h
    have e : x = y := by omega
    subst e
    rw [srt_uniq (List.Perm.cons_inv p) (List.pairwise_cons.mp hx).2 (List.pairwise_cons.mp hy).2]
theorem rc_sorted : RCL (rSorted K) (aC (rL rI) aN) rI (fun i => if i.1.length < 64 then some (srtI i.1) else none) := fun vs i z H G hv hz e Q q => by
  obtain ⟨v, ws, rfl, ⟨a, us, rfl, h2, h3⟩, rfl⟩ := hv
  have hz : (if i.1.length < 64 then some (srtI i.1) else none) = some z := hz
  split at hz
  · rename_i hl
    cases hz
    have h3' := pr_ints h3
    subst h3'
    refine ⟨a, i.1, rfl, Or.inl (Or.inl (e a _ h2)), hl, fun ns' p hp hs hn => ?_⟩
    have : ns' = srtI i.1 := srt_uniq (hp.trans (srtI_perm _).symm) hs (srtI_sorted _)
    subst this
    exact q p _ G hn (up_new e hn) (wd_new e hn (ints_pr _))
  · cases hz
def minL : List Int → Option Int
  | [] => none
  | [x] => some x
  | x :: y :: ys => (minL (y :: ys)).map fun m => if m < x then m else x
def maxL : List Int → Option Int
  | [] => none
  | [x] => some x
  | x :: y :: ys => (maxL (y :: ys)).map fun m => if m > x then m else x
theorem minL_ok : ∀ {xs : List Int} {m : Int}, minL xs = some m → m ∈ xs ∧ ∀ y ∈ xs, m ≤ y
  | [x], m, h => by cases h; exact ⟨List.mem_cons_self .., fun y hy => by rw [List.mem_singleton.mp hy]; exact Int.le_refl _⟩
  | x :: y :: ys, m, h => by
    unfold minL at h
    cases e : minL (y :: ys) with
    | none => rw [e] at h; cases h
    | some k =>
      obtain ⟨h1, h2⟩ := minL_ok e
      rw [e] at h
      have h' : (if k < x then k else x) = m := Option.some.inj h
      split at h'
      · subst h'
        exact ⟨List.mem_cons_of_mem _ h1, fun z hz => by
          rcases List.mem_cons.mp hz with hz | hz
          · omega
          · exact h2 z hz⟩
      · subst h'
        exact ⟨List.mem_cons_self .., fun z hz => by
          rcases List.mem_cons.mp hz with hz | hz
          · omega
          · have := h2 z hz; omega⟩
theorem maxL_ok : ∀ {xs : List Int} {m : Int}, maxL xs = some m → m ∈ xs ∧ ∀ y ∈ xs, y ≤ m
  | [x], m, h => by cases h; exact ⟨List.mem_cons_self .., fun y hy => by rw [List.mem_singleton.mp hy]; exact Int.le_refl _⟩
  | x :: y :: ys, m, h => by
    unfold maxL at h
    cases e : maxL (y :: ys) with
    | none => rw [e] at h; cases h
    | some k =>
      obtain ⟨h1, h2⟩ := maxL_ok e
      rw [e] at h
      have h' : (if k > x then k else x) = m := Option.some.inj h
      split at h'
      · subst h'
        exact ⟨List.mem_cons_of_mem _ h1, fun z hz => by
          rcases List.mem_cons.mp hz with hz | hz
          · omega
          · exact h2 z hz⟩
      · subst h'
        exact ⟨List.mem_cons_self .., fun z hz => by
          rcases List.mem_cons.mp hz with hz | hz
          · omega
          · have := h2 z hz; omega⟩
theorem rc_minL : RC (rMin K) (aC (rL rI) aN) rI (fun i => minL i.1) := fun vs i z H G hv hz e Q q => by
  obtain ⟨v, ws, rfl, ⟨a, us, rfl, h2, h3⟩, rfl⟩ := hv
  have h3' := pr_ints h3
  subst h3'
  obtain ⟨m1, m2⟩ := minL_ok hz
  refine ⟨a, i.1, rfl, Or.inl (Or.inl (e a _ h2)), List.length_pos_of_mem m1, fun m hm hle => ?_⟩
  have : m = z := by have := hle z m1; have := m2 m hm; omega
  subst this
  exact q _ H G (Up.refl e) rfl
theorem rc_maxL : RC (rMax K) (aC (rL rI) aN) rI (fun i => maxL i.1) := fun vs i z H G hv hz e Q q => by
  obtain ⟨v, ws, rfl, ⟨a, us, rfl, h2, h3⟩, rfl⟩ := hv
  have h3' := pr_ints h3
  subst h3'
  obtain ⟨m1, m2⟩ := maxL_ok hz
  refine ⟨a, i.1, rfl, Or.inl (Or.inl (e a _ h2)), List.length_pos_of_mem m1, fun m hm hle => ?_⟩
  have : m = z := by have := hle z m1; have := m2 m hm; omega
  subst this
  exact q _ H G (Up.refl e) rfl

/-! ### displays -/
theorem e_pair {ma : Option α} {mb : Option β} (ha : E ta σ G W R ma) (hb : E tb σ G W S mb) : E (tTup (tCons ta (tCons tb tNil))) σ G W (rP R S) (ma >>= fun x => mb >>= fun y => some (x, y)) := fun z hz H e e' Q q => by
  obtain ⟨x, hx, hz⟩ := bindS hz
  obtain ⟨y, hy, hz⟩ := bindS hz
  cases hz
  refine ha x hx H e e' _ fun v H1 G1 u1 r1 => ?_
  refine (hb.mono u1.gg (e'.trans u1.hh)) y hy H1 u1.gh (Ex.refl _) _ fun w H2 G2 u2 r2 => ?_
  refine ⟨by show 2 ≤ sizeLine; decide, fun p hp => q _ _ _ ((u1.trans u2).trans (Up.lay u2.gh hp)) ⟨p, v, w, rfl, upd_same, R.mono (u2.gg.trans (Ex.new (fresh_back u2.gh hp))) r1, S.mono (Ex.new (fresh_back u2.gh hp)) r2⟩⟩
end
end Sim

namespace Sim
open PySem L2 Evl

/-! ### mirrors of loops -/
inductive Stp (σ ρ : Type) where
  | nx (s : σ)
  | br (s : σ)
  | rt (r : ρ)
section
variable {α σ ρ : Type}
def stpK (k : σ → Option (σ ⊕ ρ)) : Stp σ ρ → Option (σ ⊕ ρ)
  | .nx s => k s
  | .br s => some (.inl s)
  | .rt r => some (.inr r)
def forL (body : α → σ → Option (Stp σ ρ)) : List α → σ → Option (σ ⊕ ρ)
  | [], s => some (.inl s)
  | x :: xs, s => body x s >>= stpK (forL body xs)
def forS (body : α → σ → Option σ) : List α → σ → Option σ
  | [], s => some s
  | x :: xs, s => body x s >>= forS body xs
theorem drop_at {xs : List α} {i : Nat} {x : α} (h : xs[i]? = some x) : xs.drop i = x :: xs.drop (i + 1) := by
  obtain ⟨hl, e⟩ := List.getElem?_eq_some_iff.mp h
  rw [List.drop_eq_getElem_cons hl, e]
theorem forL_at {body : α → σ → Option (Stp σ ρ)} {xs : List α} {i : Nat} {x : α} {s : σ} {r : σ ⊕ ρ} (h : xs[i]? = some x) (hm : forL body (xs.drop i) s = some r) :
    ∃ t, body x s = some t ∧ stpK (forL body (xs.drop (i + 1))) t = some r := by
  rw [drop_at h] at hm
  exact bindS hm
theorem forL_end {body : α → σ → Option (Stp σ ρ)} {xs : List α} {s : σ} {r : σ ⊕ ρ} (hm : forL body (xs.drop xs.length) s = some r) : .inl s = r := by
  rw [List.drop_length] at hm
  exact Option.some.inj hm
theorem forS_at {body : α → σ → Option σ} {xs : List α} {i : Nat} {x : α} {s r : σ} (h : xs[i]? = some x) (hm : forS body (xs.drop i) s = some r) :
    ∃ t, body x s = some t ∧ forS body (xs.drop (i + 1)) t = some r := by
  rw [drop_at h] at hm
  exact bindS hm
theorem forS_end {body : α → σ → Option σ} {xs : List α} {s r : σ} (hm : forS body (xs.drop xs.length) s = some r) : s = r := by
  rw [List.drop_length] at hm
  exact Option.some.inj hm
end
/-- range(lo, hi) -/
def rng (lo hi : Int) : List Int := (List.range (hi - lo).toNat).map fun (i : Nat) => lo + (i : Int)
theorem rng_get {lo hi : Int} {i : Nat} (h : i < (hi - lo).toNat) : (rng lo hi)[i]? = some (lo + i) := by
  unfold rng
  rw [List.getElem?_map, List.getElem?_range h]
  rfl
theorem rng_len (lo hi : Int) : (rng lo hi).length = (hi - lo).toNat := by
  unfold rng
  rw [List.length_map, List.length_range]
def rngM (lo hi : Int) : Option (List Int) := if -100000 ≤ lo ∧ lo ≤ 100000 ∧ -100000 ≤ hi ∧ hi ≤ 100000 then some (rng lo hi) else none

/-! ### the world of a def -/
section
variable {K : PySem.W.Frag} {σ : L2.St} {G0 H0 G H G2 H2 : Hp} {ls : List Addr} {cs : Cs} {l : Addr} {cp cp' : CP} {ta tb te tc : TE} {t u : TT} {α β γ ι κ : Type} {R : Rep α} {S : Rep β} {T : Rep γ} {A : AR ι}
theorem Wo.start (e : Ex G H) : Wo G H [] G H [] := ⟨Wd.nil e, Fr.refl, fun _ h => absurd h List.not_mem_nil⟩
theorem Wo.startC (w : Wd G H cs) : Wo G H (cs.map (·.1)) G H cs := ⟨w, Fr.refl, fun c h => .inl (List.mem_map_of_mem (f := (·.1)) h)⟩
theorem Wo.rlAt {i : Nat} {xs : List α} (w : Wo G0 H0 ls G H cs) (h : cs[i]? = some (l, cL R xs)) : (rL R).r H (.ref l) xs := by
  obtain ⟨h1, o, h2, vs, rfl, h3⟩ := w.w.getAt h
  exact ⟨l, vs, rfl, h2, Paired.mapP h3 fun _ _ => R.mono w.ex⟩
theorem set_map {i : Nat} {c : Addr × CP} (h : cs[i]? = some c) : (cs.set i (c.1, cp')).map (·.1) = cs.map (·.1) := by
  rw [List.map_set]
  have : (cs.map (·.1))[i]? = some c.1 := by rw [List.getElem?_map, h]; rfl
  obtain ⟨hl, e⟩ := List.getElem?_eq_some_iff.mp this
  conv => lhs; rw [← e]
  exact List.set_getElem_self hl
theorem mem_set_cell {i : Nat} {c : Addr × CP} (nd : (cs.map (·.1)).Nodup) (h : cs[i]? = some (l, cp)) (hc : c ∈ cs.set i (l, cp')) : c = (l, cp') ∨ (c ∈ cs ∧ c.1 ≠ l) := by
  obtain ⟨j, hj, e⟩ := List.getElem_of_mem hc
  by_cases q : i = j
  · subst q; left; rw [← e]; simp
  · right
    rw [List.getElem_set_ne q] at e
    have hj' : j < cs.length := by rw [List.length_set] at hj; exact hj
    refine ⟨e ▸ List.getElem_mem hj', fun z => q ?_⟩
    have h1 : (cs.map (·.1))[i]? = some l := by rw [List.getElem?_map, h]; rfl
    have h2 : (cs.map (·.1))[j]? = some l := by rw [List.getElem?_map, List.getElem?_eq_getElem hj', e]; exact congrArg some z
    exact nodup_ix nd h1 h2
theorem Wo.writeAt {i : Nat} (w : Wo G0 H0 ls G H cs) (h : cs[i]? = some (l, cp)) {o : HO} (hp : cp'.p G o) : Wo G0 H0 ls G (upd H l o) (cs.set i (l, cp')) := by
  obtain ⟨h1, o1, h2, h3⟩ := w.w.getAt h
  have hl : l ∈ ls ∨ H0 l = none := w.lo _ (List.mem_of_getElem? h)
  refine ⟨⟨fun a u e => ?_, fun c hc => ?_, ?_⟩, w.f.put hl, fun c hc => ?_⟩
  · rw [upd_ne (fun z => by subst z; rw [h1] at e; cases e)]; exact w.ex a u e
  · rcases mem_set_cell w.w.nd h hc with hc | ⟨hc, ne⟩
    · subst hc; exact ⟨h1, o, upd_same, hp⟩
    · obtain ⟨k1, o', k2, k3⟩ := w.w.at_ c hc
      exact ⟨k1, o', by rw [upd_ne ne]; exact k2, k3⟩
  · rw [set_map (c := (l, cp)) h]; exact w.w.nd
  · rcases mem_set_cell w.w.nd h hc with hc | ⟨hc, ne⟩
    · subst hc; exact hl
    · exact w.lo c hc
/-- a new list made by an expression becomes a cell -/
theorem Wo.newL {p : Addr} {xs : List α} (w : Wo G0 H0 ls G H cs) (n : H p = none) (u : Up G H G2 H2) (w2 : Wd G2 H2 [(p, cL R xs)]) : Wo G0 H0 ls G2 H2 ((p, cL R xs) :: cs) := by
  have n0 : H0 p = none := by
    cases q : H0 p with
    | none => rfl
    | some o => exact absurd n (w.f.st p (by rw [q]; simp))
  have w3 := w.up u
  refine ⟨⟨w3.ex, fun c hc => ?_, ?_⟩, w3.f, fun c hc => ?_⟩
  · rcases List.mem_cons.mp hc with hc | hc
    · subst hc; exact w2.head
    · exact w3.w.at_ c hc
  · refine List.nodup_cons.mpr ⟨fun hm => ?_, w.w.nd⟩
    obtain ⟨c, hc, e⟩ := List.mem_map.mp hm
    obtain ⟨_, o', h2, _⟩ := w.w.at_ c hc
    exact ne_of_none h2 n e
  · rcases List.mem_cons.mp hc with hc | hc
    · subst hc; exact .inr n0
    · exact w.lo c hc
theorem Wo.dropAt (w : Wo G0 H0 ls G H cs) (i : Nat) : Wo G0 H0 ls G H (cs.eraseIdx i) := ⟨⟨w.ex, fun c hc => w.w.at_ c (List.mem_of_mem_eraseIdx hc), 
  List.Pairwise.sublist ((List.eraseIdx_sublist cs i).map (·.1)) w.w.nd⟩, w.f, fun c hc => w.lo c (List.mem_of_mem_eraseIdx hc)⟩
/-- a list cell of the def's own becomes data -/
theorem Wo.freezeAt {i : Nat} {xs : List α} (w : Wo G0 H0 ls G H cs) (h : cs[i]? = some (l, cL R xs)) (hl : H0 l = none) : ∃ G2, Wo G0 H0 ls G2 H (cs.eraseIdx i) ∧ Ex G G2 ∧ (rL R).r G2 (.ref l) xs := by
  obtain ⟨h1, o, h2, vs, rfl, h3⟩ := w.w.getAt h
  refine ⟨upd G l (.lst vs), ⟨⟨fun a u e => ?_, fun c hc => ?_, ?_⟩, ⟨w.f.gg.trans (Ex.new h1), w.f.fr, fun a k1 k2 => ?_, w.f.st⟩, fun c hc => w.lo c (List.mem_of_mem_eraseIdx hc)⟩, Ex.new h1, l, vs, rfl, upd_same, Paired.mapP h3 fun _ _ => R.mono (Ex.new h1)⟩
  · by_cases q : a = l
    · subst q; rw [upd_same] at e; cases e; exact h2
    · rw [upd_ne q] at e; exact w.ex a u e
  · obtain ⟨k1, o', k2, k3⟩ := w.w.at_ c (List.mem_of_mem_eraseIdx hc)
    obtain ⟨j, hj, e⟩ := List.getElem?_of_mem hc |>.imp fun _ h => (⟨trivial, h⟩ : True ∧ _)
    have ne : c.1 ≠ l := fun z => by
      rw [List.getElem?_eraseIdx] at e
      have hi : (cs.map (·.1))[i]? = some l := by rw [List.getElem?_map, h]; rfl
      split at e
      · rename_i hlt
        have : (cs.map (·.1))[j]? = some l := by rw [List.getElem?_map, e]; exact congrArg some z
        have := nodup_ix w.w.nd hi this
        omega
      · rename_i hlt
        have : (cs.map (·.1))[j + 1]? = some l := by rw [List.getElem?_map, e]; exact congrArg some z
        have := nodup_ix w.w.nd hi this
        omega
    exact ⟨by rw [upd_ne ne]; exact k1, o', k2, c.2.mono (Ex.new h1) k3⟩
  · exact List.Pairwise.sublist ((List.eraseIdx_sublist cs i).map (·.1)) w.w.nd
  · have ne : a ≠ l := fun z => by subst z; exact k1 hl
    rw [upd_ne ne]; exact w.f.nw a k1 k2
/-- behind a call that changed the i-th cell alone -/
theorem Wo.call1 {i : Nat} (w : Wo G0 H0 ls G H cs) (h : cs[i]? = some (l, cp)) (f : Fr G H G2 H2 [l]) (w2 : Wd G2 H2 [(l, cp')]) : Wo G0 H0 ls G2 H2 (cs.set i (l, cp')) := by
  have hl : l ∈ ls ∨ H0 l = none := w.lo _ (List.mem_of_getElem? h)
  refine ⟨⟨w2.ex, fun c hc => ?_, by rw [set_map (c := (l, cp)) h]; exact w.w.nd⟩, ⟨w.f.gg.trans f.gg, fun a o h1 h2 => ?_, fun a h1 h2 => f.nw a (w.f.st a h1) (w.f.nw a h1 h2), fun a h1 => f.st a (w.f.st a h1)⟩, fun c hc => ?_⟩
  · rcases mem_set_cell w.w.nd h hc with hc | ⟨hc, ne⟩
    · subst hc; exact w2.head
    · obtain ⟨k1, o', k2, k3⟩ := w.w.at_ c hc
      exact ⟨f.nw _ (by rw [k2]; simp) k1, o', f.fr _ _ k2 (fun z => ne (List.mem_singleton.mp z)), c.2.mono f.gg k3⟩
  · refine f.fr a o (w.f.fr a o h1 h2) fun z => ?_
    rw [List.mem_singleton.mp z] at h1 h2
    rcases hl with q | q
    · exact h2 q
    · rw [q] at h1; cases h1
  · rcases mem_set_cell w.w.nd h hc with hc | ⟨hc, ne⟩
    · subst hc; exact hl
    · exact w.lo c hc
theorem Wo.sub1 {i : Nat} (w : Wo G0 H0 ls G H cs) (h : cs[i]? = some (l, cp)) : Wd G H [(l, cp)] := ⟨w.ex, fun c hc => by
  rw [List.mem_singleton.mp hc]; exact w.w.at_ _ (List.mem_of_getElem? h), List.nodup_cons.mpr ⟨List.not_mem_nil, List.nodup_nil⟩⟩
/-- the ends of a def -/
theorem Wo.upE (w : Wo G0 H0 [] G H cs) : Up G0 H0 G H := ⟨w.f.gg, w.ex, fun a o h => w.f.fr a o h List.not_mem_nil, w.f.nw⟩
end
end Sim

namespace Sim
open PySem L2 Evl
section
variable {K : PySem.W.Frag} {σ : L2.St} {G0 H0 G H G2 H2 W : Hp} {ls : List Addr} {cs : Cs} {l : Addr} {cp cp' : CP} {ta tb te tc : TE} {t u : TT} {α β γ ι κ : Type} {R : Rep α} {S : Rep β} {T : Rep γ} {A : AR ι} {D : Ends} {tu tv tz : TS} {g : TG}

/-! ### expressions in the world -/
theorem c_e {m : Option α} {x : α} {Q : VK} (w : Wo G0 H0 ls G H cs) (h : E te σ G H R m) (hm : m = some x) (k : ∀ v H2 G2, Wo G0 H0 ls G2 H2 cs → Ex G G2 → R.r G2 v x → Q v H2) : te σ H Q :=
  h x hm H w.ex (Ex.refl _) Q fun v H2 G2 u r => k v H2 G2 (w.up u) u.gg r
/-- scalars: the value is written out, the data heap stays -/
theorem c_i {m : Option Int} {x : Int} {Q : VK} (w : Wo G0 H0 ls G H cs) (h : E te σ G H rI m) (hm : m = some x) (k : ∀ H2, Wo G0 H0 ls G H2 cs → Q (.int x) H2) : te σ H Q :=
  h x hm H w.ex (Ex.refl _) Q fun v H2 G2 u r => by cases r; exact k H2 (w.sc u.hh)
theorem c_s {m : Option Str} {x : Str} {Q : VK} (w : Wo G0 H0 ls G H cs) (h : E te σ G H rS m) (hm : m = some x) (k : ∀ H2, Wo G0 H0 ls G H2 cs → Q (.str x) H2) : te σ H Q :=
  h x hm H w.ex (Ex.refl _) Q fun v H2 G2 u r => by cases r; exact k H2 (w.sc u.hh)
theorem c_l {m : Option (List α)} {x : List α} {Q : VK} (w : Wo G0 H0 ls G H cs) (h : EL te σ G H R m) (hm : m = some x) (k : ∀ p H2 G2, H0 p = none → Wo G0 H0 ls G2 H2 ((p, cL R x) :: cs) → Ex G G2 → Q (.ref p) H2) : te σ H Q :=
  h x hm H w.ex (Ex.refl _) Q fun p H2 G2 hp u w2 => k p H2 G2 (by
    cases q : H0 p with
    | none => rfl
    | some o => exact absurd hp (w.f.st p (by rw [q]; simp))) (w.newL hp u w2) u.gg
theorem c_t {m : Option Bool} {b : Bool} {Q : Bool → Hp → Prop} (w : Wo G0 H0 ls G H cs) (h : ET t σ H m) (hm : m = some b) (k : ∀ H2, Wo G0 H0 ls G H2 cs → Q b H2) : t σ H Q :=
  h b hm H (Ex.refl _) Q fun H2 e => k H2 (w.sc e)
/-- an operation on values that stand -/
theorem c_rr {r : R2} {f : α → β → Option γ} {v w' : V} {x : α} {y : β} {z : γ} {Q : VK} (hr : RR r R S T f) (w : Wo G0 H0 ls G H cs) (hv : R.r G v x) (hw : S.r G w' y) (hz : f x y = some z)
    (k : ∀ u H2 G2, Wo G0 H0 ls G2 H2 cs → Ex G G2 → T.r G2 u z → Q u H2) : r v w' H Q := hr v w' x y z H G hv hw hz w.ex Q fun u H2 G2 up r => k u H2 G2 (w.up up) up.gg r
/-! ### a def that changes one cell -/
/-- (l, more) with the cell's items ys: f ys more = (x, ys') -/
abbrev P1 {κ α ι : Type} (A : AR ι) (C : Rep κ) (R : Rep α) (f : List κ → ι → Option (α × List κ)) : Sp := PM (aC rA A) (fun i k => [(i.1, cL C k)]) R (fun i k => f k i.2)
abbrev P1L {κ α ι : Type} (A : AR ι) (C : Rep κ) (R : Rep α) (f : List κ → ι → Option (List α × List κ)) : Sp := PML (aC rA A) (fun i k => [(i.1, cL C k)]) R (fun i k => f k i.2)
theorem c_p1 {C : Rep κ} {f : List κ → ι → Option (α × List κ)} {vs : List V} {i : Nat} {j : ι} {ys ys' : List κ} {x : α} {Q : VK} {X : XK} (w : Wo G0 H0 ls G H cs) (hc : cs[i]? = some (l, cL C ys)) (hv : A.r G vs j) (hz : f ys j = some (x, ys'))
    (k : ∀ v H2 G2, Wo G0 H0 ls G2 H2 (cs.set i (l, cL C ys')) → Ex G G2 → R.r G2 v x → Q v H2) : P1 A C R f (.ref l :: vs) H Q X :=
  ⟨G, (l, j), ys, x, ys', ⟨.ref l, vs, rfl, rfl, hv⟩, w.sub1 hc, hz, fun v H2 G2 fr w2 r => k v H2 G2 (w.call1 hc fr w2) fr.gg r⟩
theorem Wo.call1L {i : Nat} {p : Addr} {cq : CP} (w : Wo G0 H0 ls G H cs) (h : cs[i]? = some (l, cp)) (hp : H p = none) (f : Fr G H G2 H2 [l]) (w2 : Wd G2 H2 [(p, cq), (l, cp')]) : Wo G0 H0 ls G2 H2 ((p, cq) :: cs.set i (l, cp')) := by
  have n0 : H0 p = none := by
    cases q : H0 p with
    | none => rfl
    | some o => exact absurd hp (w.f.st p (by rw [q]; simp))
  have w3 := w.call1 h f w2.tail
  refine ⟨⟨w3.ex, fun c hc => ?_, ?_⟩, w3.f, fun c hc => ?_⟩
  · rcases List.mem_cons.mp hc with hc | hc
    · subst hc; exact w2.head
    · exact w3.w.at_ c hc
  · refine List.nodup_cons.mpr ⟨fun hm => ?_, w3.w.nd⟩
    rw [Sim.set_map (c := (l, cp)) h] at hm
    obtain ⟨c, hc, e⟩ := List.mem_map.mp hm
    obtain ⟨_, o', h2, _⟩ := w.w.at_ c hc
    exact ne_of_none h2 hp e
  · rcases List.mem_cons.mp hc with hc | hc
    · subst hc; exact .inr n0
    · exact w3.lo c hc
theorem c_p1l {C : Rep κ} {f : List κ → ι → Option (List α × List κ)} {vs : List V} {i : Nat} {j : ι} {ys ys' : List κ} {x : List α} {Q : VK} {X : XK} (w : Wo G0 H0 ls G H cs) (hc : cs[i]? = some (l, cL C ys)) (hv : A.r G vs j) (hz : f ys j = some (x, ys'))
    (k : ∀ p H2 G2, H0 p = none → Wo G0 H0 ls G2 H2 ((p, cL R x) :: cs.set i (l, cL C ys')) → Ex G G2 → Q (.ref p) H2) : P1L A C R f (.ref l :: vs) H Q X :=
  ⟨G, (l, j), ys, x, ys', ⟨.ref l, vs, rfl, rfl, hv⟩, w.sub1 hc, hz, fun p H2 G2 hp fr w2 => k p H2 G2 (by
    cases q : H0 p with
    | none => rfl
    | some o => exact absurd hp (w.f.st p (by rw [q]; simp))) (w.call1L hc hp fr w2) fr.gg⟩

/-! ### readings opened -/
theorem o_nil {Q : List V → Hp → Prop} (h : Q [] H) : tNil σ H Q := h
theorem o_cons {tr : TA} {Q : List V → Hp → Prop} (h : ta σ H fun x H1 => tr σ H1 fun xs H2 => Q (x :: xs) H2) : tCons ta tr σ H Q := h
theorem o_op {r : R2} {Q : VK} (h : ta σ H fun x H1 => tb σ H1 fun y H2 => r x y H2 Q) : tOp r ta tb σ H Q := h
theorem o_call {sp : Sp} {X : XK} {ta : TA} {Q : VK} (h : ta σ H fun vs H1 => sp vs H1 Q X) : tCall sp [] X ta σ H Q := by
  show ta σ H fun vs H1 => sp (vs ++ []) H1 Q X
  have : (fun (vs : List V) (H1 : Hp) => sp (vs ++ []) H1 Q X) = fun vs H1 => sp vs H1 Q X := by funext vs H1; rw [List.append_nil]
  rw [this]; exact h
theorem o_cb {r : List V → Hp → VK → Prop} {ta : TA} {Q : VK} (h : ta σ H fun vs H1 => r vs H1 Q) : tCB r ta σ H Q := h
theorem o_var {i : Nat} {v : V} {Q : VK} (hi : σ[i]? = some (some v)) (h : Q v H) : tVar i σ H Q := ⟨v, hi, h⟩
/-! ### statements -/
theorem x_next {f b c : L2.St → Hp → Prop} {r : VK} (h : f σ H) : tNext { nx := f, rt := r, bk := b, ct := c } σ H := h
theorem x_set {i : Nat} {m : Option α} {x : α} (w : Wo G0 H0 ls G H cs) (h : E te σ G H R m) (hm : m = some x) (k : ∀ v H2 G2, Wo G0 H0 ls G2 H2 cs → Ex G G2 → R.r G2 v x → tz D (σ.set i (some v)) H2) : tSeq (tAsg te (gName i)) tz D σ H :=
  c_e (Q := fun x H1 => gName i x σ H1 (tz D)) w h hm k
theorem x_setI {i : Nat} {m : Option Int} {x : Int} (w : Wo G0 H0 ls G H cs) (h : E te σ G H rI m) (hm : m = some x) (k : ∀ H2, Wo G0 H0 ls G H2 cs → tz D (σ.set i (some (.int x))) H2) : tSeq (tAsg te (gName i)) tz D σ H :=
  c_i (Q := fun x H1 => gName i x σ H1 (tz D)) w h hm k
theorem x_setS {i : Nat} {m : Option Str} {x : Str} (w : Wo G0 H0 ls G H cs) (h : E te σ G H rS m) (hm : m = some x) (k : ∀ H2, Wo G0 H0 ls G H2 cs → tz D (σ.set i (some (.str x))) H2) : tSeq (tAsg te (gName i)) tz D σ H :=
  c_s (Q := fun x H1 => gName i x σ H1 (tz D)) w h hm k
theorem x_setL {i : Nat} {m : Option (List α)} {x : List α} (w : Wo G0 H0 ls G H cs) (h : EL te σ G H R m) (hm : m = some x) (k : ∀ p H2 G2, H0 p = none → Wo G0 H0 ls G2 H2 ((p, cL R x) :: cs) → Ex G G2 → tz D (σ.set i (some (.ref p))) H2) : tSeq (tAsg te (gName i)) tz D σ H :=
  c_l (Q := fun x H1 => gName i x σ H1 (tz D)) w h hm k
/-- name = an expression that changes cells: opened -/
theorem x_setO {i : Nat} (h : te σ H fun v H1 => tz D (σ.set i (some v)) H1) : tSeq (tAsg te (gName i)) tz D σ H := h
theorem x_if {m : Option Bool} {b : Bool} (w : Wo G0 H0 ls G H cs) (h : ET t σ H m) (hm : m = some b) (h1 : b = true → ∀ H2, Wo G0 H0 ls G H2 cs → tu { D with nx := tz D } σ H2) (h2 : b = false → ∀ H2, Wo G0 H0 ls G H2 cs → tv { D with nx := tz D } σ H2) :
    tSeq (tIfS t tu tv) tz D σ H := c_t (Q := fun b H1 => if b = true then tu { D with nx := tz D } σ H1 else tv { D with nx := tz D } σ H1) w h hm fun H2 w2 => by
  cases b with
  | true => exact h1 rfl H2 w2
  | false => exact h2 rfl H2 w2
theorem x_ret {m : Option α} {x : α} (w : Wo G0 H0 ls G H cs) (h : E te σ G H R m) (hm : m = some x) (k : ∀ v H2 G2, Wo G0 H0 ls G2 H2 cs → Ex G G2 → R.r G2 v x → D.rt v H2) : tSeq (tRet te) tz D σ H := c_e (Q := D.rt) w h hm k
theorem x_retO (h : te σ H D.rt) : tSeq (tRet te) tz D σ H := h
theorem x_drop (h : te σ H fun _ H1 => tz D σ H1) : tSeq (tDrop te) tz D σ H := h
/-! ### list cells, by methods -/
theorem x_app {i j : Nat} {m : Option α} {x : α} {xs : List α} (w : Wo G0 H0 ls G H cs) (hc : cs[j]? = some (l, cL R xs)) (hs : sz xs.length = true) (hi : σ[i]? = some (some (.ref l))) (h : E te σ G H R m) (hm : m = some x)
    (k : ∀ H2 G2, Wo G0 H0 ls G2 H2 (cs.set j (l, cL R (xs ++ [x]))) → Ex G G2 → tz D σ H2) : tSeq (tDrop (tBM K "list" rAppend (tVar i) (tCons te tNil))) tz D σ H := by
  obtain ⟨_, o, h2, vs, rfl, h3⟩ := w.w.getAt hc
  refine ⟨.ref l, hi, .inl ⟨rfl, vs, Or.inl (Or.inl h2)⟩, c_e (Q := fun x H1 => rAppend (.ref l) [x] H1 fun _ H3 => tz D σ H3) w h hm fun v H3 G3 w3 e r => ?_⟩
  obtain ⟨_, o3, k2, vs3, rfl, k3⟩ := w3.w.getAt hc
  refine ⟨l, vs3, v, rfl, rfl, k2, by rw [k3.length]; exact sz_l hs, k _ _ (w3.writeAt hc ⟨vs3 ++ [v], rfl, pr_app k3 (.cons r .nil)⟩) e⟩
/-- append, the item made by an expression that changes cells: the last step -/
theorem c_app {j : Nat} {x : α} {v : V} {xs : List α} {Q : VK} (w : Wo G0 H0 ls G H cs) (hc : cs[j]? = some (l, cL R xs)) (hs : sz xs.length = true) (r : R.r G v x) (k : ∀ H2, Wo G0 H0 ls G H2 (cs.set j (l, cL R (xs ++ [x]))) → Q .non H2) : rAppend (.ref l) [v] H Q := by
  obtain ⟨_, o3, k2, vs3, rfl, k3⟩ := w.w.getAt hc
  exact ⟨l, vs3, v, rfl, rfl, k2, by rw [k3.length]; exact sz_l hs, k _ (w.writeAt hc ⟨vs3 ++ [v], rfl, pr_app k3 (.cons r .nil)⟩)⟩
theorem o_bm {rr : V → List V → Hp → VK → Prop} {i j : Nat} {xs : List α} {ta : TA} {Q : VK} (w : Wo G0 H0 ls G H cs) (hc : cs[j]? = some (l, cL R xs)) (hi : σ[i]? = some (some (.ref l))) (h : ta σ H fun vs H2 => rr (.ref l) vs H2 Q) : tBM K "list" rr (tVar i) ta σ H Q := by
  obtain ⟨_, o, h2, vs, rfl, h3⟩ := w.w.getAt hc
  exact ⟨.ref l, hi, .inl ⟨rfl, vs, Or.inl (Or.inl h2)⟩, h⟩
theorem o_bm0 {rr : V → List V → Hp → VK → Prop} {i j : Nat} {xs : List α} {Q : VK} (w : Wo G0 H0 ls G H cs) (hc : cs[j]? = some (l, cL R xs)) (hi : σ[i]? = some (some (.ref l))) (h : rr (.ref l) [] H Q) : tBM0 K "list" rr (tVar i) σ H Q := by
  obtain ⟨_, o, h2, vs, rfl, h3⟩ := w.w.getAt hc
  exact ⟨.ref l, hi, .inl ⟨rfl, vs, Or.inl (Or.inl h2)⟩, h⟩
/-- xs.pop(), xs.pop(i), insert, reverse, clear -/
def popM (xs : List α) : Option (α × List α) := xs[xs.length - 1]? >>= fun x => some (x, xs.dropLast)
def popAtM (xs : List α) (i : Int) : Option (α × List α) := if -(2 ^ 63) ≤ i ∧ i < 2 ^ 63 then (seqIndex? i xs.length >>= fun k => xs[k]? >>= fun x => some (x, xs.eraseIdx k)) else none
def appM (xs : List α) (x : α) : Option (List α) := bif sz xs.length then some (xs ++ [x]) else none
theorem appM_ok {xs ys : List α} {x : α} (h : appM xs x = some ys) : sz xs.length = true ∧ ys = xs ++ [x] := by
  unfold appM at h
  cases e : sz xs.length with
  | true => rw [e] at h; exact ⟨rfl, (Option.some.inj h).symm⟩
  | false => rw [e] at h; cases h
theorem pr_take {R : V → α → Prop} : ∀ (n : Nat) {vs : List V} {xs : List α}, Paired R vs xs → Paired R (vs.take n) (xs.take n)
  | 0, _, _, _ => .nil
  | n + 1, _, _, .nil => .nil
  | n + 1, _, _, .cons r t => .cons r (pr_take n t)
theorem pr_erase {R : V → α → Prop} : ∀ (n : Nat) {vs : List V} {xs : List α}, Paired R vs xs → Paired R (vs.eraseIdx n) (xs.eraseIdx n)
  | _, _, _, .nil => .nil
  | 0, _, _, .cons r t => t
  | n + 1, _, _, .cons r t => .cons r (pr_erase n t)
theorem pr_set {R : V → α → Prop} {v : V} {x : α} (r0 : R v x) : ∀ (n : Nat) {vs : List V} {xs : List α}, Paired R vs xs → Paired R (vs.set n v) (xs.set n x)
  | _, _, _, .nil => .nil
  | 0, _, _, .cons r t => .cons r0 t
  | n + 1, _, _, .cons r t => .cons r (pr_set r0 n t)
theorem pr_dropLast {R : V → α → Prop} {vs : List V} {xs : List α} (h : Paired R vs xs) : Paired R vs.dropLast xs.dropLast := by
  rw [List.dropLast_eq_take, List.dropLast_eq_take, h.length]; exact pr_take _ h
theorem pr_rev {R : V → α → Prop} : ∀ {vs : List V} {xs : List α}, Paired R vs xs → Paired R vs.reverse xs.reverse
  | _, _, .nil => .nil
  | _, _, .cons r t => by rw [List.reverse_cons, List.reverse_cons]; exact pr_app (pr_rev t) (.cons r .nil)
theorem c_pop {j : Nat} {x : α} {xs ys : List α} {Q : VK} (w : Wo G0 H0 ls G H cs) (hc : cs[j]? = some (l, cL R xs)) (hm : popM xs = some (x, ys)) (k : ∀ v H2, Wo G0 H0 ls G H2 (cs.set j (l, cL R ys)) → R.r G v x → Q v H2) : rPop (.ref l) [] H Q := by
  obtain ⟨_, o3, k2, vs, rfl, k3⟩ := w.w.getAt hc
  obtain ⟨x', hx, e⟩ := bindS hm
  cases e
  obtain ⟨v, hv, r⟩ := pr_get k3 hx
  exact ⟨l, vs, v, rfl, rfl, k2, by rw [k3.length]; exact hv, k v _ (w.writeAt hc ⟨vs.dropLast, rfl, pr_dropLast k3⟩) r⟩
theorem c_popAt {j : Nat} {i : Int} {x : α} {xs ys : List α} {Q : VK} (w : Wo G0 H0 ls G H cs) (hc : cs[j]? = some (l, cL R xs)) (hm : popAtM xs i = some (x, ys)) (k : ∀ v H2, Wo G0 H0 ls G H2 (cs.set j (l, cL R ys)) → R.r G v x → Q v H2) : rPopAt (.ref l) [.int i] H Q := by
  obtain ⟨_, o3, k2, vs, rfl, k3⟩ := w.w.getAt hc
  unfold popAtM at hm
  split at hm
  · rename_i hb
    obtain ⟨n, hn, hm⟩ := bindS hm
    obtain ⟨x', hx, e⟩ := bindS hm
    cases e
    obtain ⟨v, hv, r⟩ := pr_get k3 hx
    exact ⟨l, vs, i, n, v, rfl, rfl, k2, hb.1, hb.2, by rw [k3.length]; exact hn, hv, k v _ (w.writeAt hc ⟨vs.eraseIdx n, rfl, pr_erase n k3⟩) r⟩
  · cases hm
theorem c_rev {j : Nat} {xs : List α} {Q : VK} (w : Wo G0 H0 ls G H cs) (hc : cs[j]? = some (l, cL R xs)) (k : ∀ H2, Wo G0 H0 ls G H2 (cs.set j (l, cL R xs.reverse)) → Q .non H2) : rReverse (.ref l) [] H Q := by
  obtain ⟨_, o3, k2, vs, rfl, k3⟩ := w.w.getAt hc
  exact ⟨l, vs, rfl, rfl, k2, k _ (w.writeAt hc ⟨_, rfl, pr_rev k3⟩)⟩
/-- xs[i] = e -/
def setM (xs : List α) (i : Int) (x : α) : Option (List α) := ixN xs.length i >>= fun j => some (xs.set j x)
theorem x_setIx {a j : Nat} {te ti : TE} {m : Option α} {mi : Option Int} {x : α} {i : Int} {xs ys : List α} (w : Wo G0 H0 ls G H cs) (hc : cs[j]? = some (l, cL R xs)) (hi : σ[a]? = some (some (.ref l))) (h : E te σ G H R m) (hm : m = some x)
    (h' : E ti σ G H rI mi) (hm' : mi = some i) (hy : setM xs i x = some ys) (k : ∀ H2 G2, Wo G0 H0 ls G2 H2 (cs.set j (l, cL R ys)) → Ex G G2 → tz D σ H2) : tSeq (tAsg te (gSub (tVar a) ti rSetL)) tz D σ H :=
  h x hm H w.ex (Ex.refl _) (fun x H1 => gSub (tVar a) ti rSetL x σ H1 (tz D)) fun v H3 G3 u r => by
    have w3 := w.up u
    refine ⟨.ref l, hi, (h'.mono u.gg u.hh) i hm' H3 w3.ex (Ex.refl _) _ fun v' H4 G4 u' r' => ?_⟩
    cases r'
    have w4 := w3.up u'
    obtain ⟨_, o3, k2, vs, rfl, k3⟩ := w4.w.getAt hc
    obtain ⟨n, hn, e⟩ := bindS hy
    cases e
    exact ⟨l, vs, i, n, rfl, rfl, k2, by rw [k3.length]; exact hn, k _ _ (w4.writeAt hc ⟨_, rfl, pr_set (R.mono u'.gg r) n k3⟩) (u.gg.trans u'.gg)⟩

/-! ### loops -/
theorem x_forL {xs : List α} {tl : TE} {m : Option (List α)} (w : Wo G0 H0 ls G H cs) (h : E tl σ G H (rL R) m) (hm : m = some xs) (P : Nat → Hp → Hp → L2.St → Prop) (hP : ∀ i G' H' σ', P i G' H' σ' → Ex G' H')
    (h0 : ∀ G' H', Wo G0 H0 ls G' H' cs → Ex G G' → P 0 G' H' σ)
    (hs : ∀ G1, Ex G G1 → ∀ i x v σ' G' H', xs[i]? = some x → Ex G1 G' → P i G' H' σ' → R.r G' v x → g v σ' H' fun σ2 H2 => tu { D with nx := fun σ' H' => ∃ G', Ex G1 G' ∧ P (i + 1) G' H' σ', ct := fun σ' H' => ∃ G', Ex G1 G' ∧ P (i + 1) G' H' σ', bk := tz D } σ2 H2)
    (hd : ∀ σ' G' H', Ex G G' → P xs.length G' H' σ' → tz D σ' H') : tSeq (tFor (iList K tl) g tu) tz D σ H :=
  h xs hm H w.ex (Ex.refl _) _ fun v H1 G1 u r => by
    obtain ⟨a, vs, rfl, h2, h3⟩ := r
    refine ⟨a, rfl, ⟨vs, Or.inl (Or.inl (u.gh a _ h2))⟩, for_list (K := K) (a := a) (xs := vs) (fun i σ' H' => ∃ G', Ex G1 G' ∧ P i G' H' σ') ⟨G1, Ex.refl _, h0 G1 H1 (w.up u) u.gg⟩ ?_ ?_ ?_⟩
    · rintro i σ' H' _ ⟨G', e, p⟩
      exact Or.inl (Or.inl (hP _ _ _ _ p a _ (e a _ h2)))
    · rintro i y σ' H' hy ⟨G', e, p⟩
      obtain ⟨x, hx, r⟩ := pr_get' h3 hy
      exact hs G1 u.gg i x y σ' G' H' hx e p (R.mono e r)
    · rintro σ' H' ⟨G', e, p⟩
      rw [h3.length] at p
      exact hd σ' G' H' (u.gg.trans e) p
theorem x_forR {ta : TA} {n : Int} {m : Option (Int × Unit)} {xs : List Int} (w : Wo G0 H0 ls G H cs) (h : EA ta σ G H (aC rI aN) m) (hm : m = some (n, ())) (hx : rngM 0 n = some xs) (P : Nat → Hp → Hp → L2.St → Prop)
    (h0 : ∀ G' H', Wo G0 H0 ls G' H' cs → Ex G G' → P 0 G' H' σ)
    (hs : ∀ i x σ' G' H', xs[i]? = some x → P i G' H' σ' → g (.int x) σ' H' fun σ2 H2 => tu { D with nx := fun σ' H' => ∃ G', P (i + 1) G' H' σ', ct := fun σ' H' => ∃ G', P (i + 1) G' H' σ', bk := tz D } σ2 H2)
    (hd : ∀ σ' G' H', P xs.length G' H' σ' → tz D σ' H') : tSeq (tFor (iRng1 ta) g tu) tz D σ H :=
  h _ hm H w.ex (Ex.refl _) _ fun v H1 G1 u r => by
    obtain ⟨v1, ws, rfl, e1, rfl⟩ := r
    cases e1
    unfold rngM at hx
    split at hx
    · rename_i hb
      cases hx
      refine ⟨n, rfl, by omega, by omega, for_range (lo := 0) (n := n.toNat) (fun i σ' H' => ∃ G', P i G' H' σ') ⟨G1, h0 G1 H1 (w.up u) u.gg⟩ ?_ ?_⟩
      · rintro i σ' H' hi ⟨G', p⟩
        exact hs i _ σ' G' H' (rng_get (by omega)) p
      · rintro σ' H' ⟨G', p⟩
        refine hd σ' G' H' ?_
        rw [rng_len]
        have : (n - 0).toNat = n.toNat := by omega
        rw [this]; exact p
    · cases hx
theorem x_forR2 {ta : TA} {lo n : Int} {m : Option (Int × Int × Unit)} {xs : List Int} (w : Wo G0 H0 ls G H cs) (h : EA ta σ G H (aC rI (aC rI aN)) m) (hm : m = some (lo, n, ())) (hx : rngM lo n = some xs) (P : Nat → Hp → Hp → L2.St → Prop)
    (h0 : ∀ G' H', Wo G0 H0 ls G' H' cs → Ex G G' → P 0 G' H' σ)
    (hs : ∀ i x σ' G' H', xs[i]? = some x → P i G' H' σ' → g (.int x) σ' H' fun σ2 H2 => tu { D with nx := fun σ' H' => ∃ G', P (i + 1) G' H' σ', ct := fun σ' H' => ∃ G', P (i + 1) G' H' σ', bk := tz D } σ2 H2)
    (hd : ∀ σ' G' H', P xs.length G' H' σ' → tz D σ' H') : tSeq (tFor (iRng2 ta) g tu) tz D σ H :=
  h _ hm H w.ex (Ex.refl _) _ fun v H1 G1 u r => by
    obtain ⟨v1, ws, rfl, e1, v2, ws2, rfl, e2, rfl⟩ := r
    cases e1
    cases e2
    unfold rngM at hx
    split at hx
    · rename_i hb
      cases hx
      refine ⟨lo, n, rfl, ⟨by omega, by omega, by omega, by omega⟩, for_range (lo := lo) (n := (n - lo).toNat) (fun i σ' H' => ∃ G', P i G' H' σ') ⟨G1, h0 G1 H1 (w.up u) u.gg⟩ ?_ ?_⟩
      · rintro i σ' H' hi ⟨G', p⟩
        exact hs i _ σ' G' H' (rng_get hi) p
      · rintro σ' H' ⟨G', p⟩
        refine hd σ' G' H' ?_
        rw [rng_len]
        exact p
    · cases hx
theorem g_name {j : Nat} {v : V} {Q : L2.St → Hp → Prop} (h : Q (σ.set j (some v)) H) : gName j v σ H Q := h
theorem g_pair {i j : Nat} {v : V} {p : α × β} {Q : L2.St → Hp → Prop} (r : (rP R S).r G v p) (e : Ex G H) (k : ∀ x y, R.r G x p.1 → S.r G y p.2 → Q ((σ.set i (some x)).set j (some y)) H) : gTup K 2 (gCons (gName i) (gCons (gName j) gNil)) v σ H Q := by
  obtain ⟨a, x, y, rfl, h2, h3, h4⟩ := r
  exact ⟨a, [x, y], rfl, Or.inl (Or.inl (e a _ h2)), rfl, x, [y], rfl, y, [], rfl, rfl, k x y h3 h4⟩
end
end Sim

namespace Sim
open PySem L2 Evl
section
variable {α β : Type}
/-- [f2 x for x in xs if f x] -/
def lcM (f : α → Option Bool) (f2 : α → Option β) : List α → Option (List β)
  | [] => some []
  | x :: xs => f x >>= fun b => bif b then f2 x >>= fun y => lcM f f2 xs >>= fun ys => some (y :: ys) else lcM f f2 xs
/-- [f2 x for x in xs] -/
def mapO (f2 : α → Option β) : List α → Option (List β)
  | [] => some []
  | x :: xs => f2 x >>= fun y => mapO f2 xs >>= fun ys => some (y :: ys)
def lcS (f : α → Option Bool) (f2 : α → Option β) (xs : List α) : Option (List β) := bif sz xs.length then lcM f f2 xs else none
def mapS (f2 : α → Option β) (xs : List α) : Option (List β) := bif sz xs.length then mapO f2 xs else none
theorem lcM_true (f2 : α → Option β) : ∀ xs, lcM (fun _ => some true) f2 xs = mapO f2 xs
  | [] => rfl
  | x :: xs => by
    show (f2 x >>= fun y => lcM (fun _ => some true) f2 xs >>= fun ys => some (y :: ys)) = _
    rw [lcM_true f2 xs]; rfl
theorem mapS_eq (f2 : α → Option β) : mapS f2 = lcS (fun _ => some true) f2 := by
  funext xs
  unfold mapS lcS
  rw [lcM_true]
theorem lcS_ok {f : α → Option Bool} {f2 : α → Option β} {xs : List α} {ys : List β} (h : lcS f f2 xs = some ys) : sz xs.length = true ∧ lcM f f2 xs = some ys := by
  unfold lcS at h
  cases e : sz xs.length with
  | true => rw [e] at h; exact ⟨rfl, h⟩
  | false => rw [e] at h; cases h
end
section
variable {K : PySem.W.Frag} {σ : L2.St} {G H W : Hp} {te tl : TE} {tt : TT} {α β γ : Type} {R : Rep α} {S : Rep β} {T : Rep γ}
/-- a turn's word: the list so far, what is left -/
def Lw (G0 H0 : Hp) (T : Rep γ) (f : α → Option Bool) (f2 : α → Option γ) (xs : List α) (zs : List γ) (D : Addr) (i : Nat) (H : Hp) : Prop :=
  ∃ G acc ys rest, H0 D = none ∧ Up G0 H0 G H ∧ G D = none ∧ H D = some (.lst acc) ∧ Paired (T.r G) acc ys ∧ lcM f f2 (xs.drop i) = some rest ∧ ys ++ rest = zs ∧ ys.length ≤ i
theorem lw_turn {G0 H0 H : Hp} {f : α → Option Bool} {f2 : α → Option γ} {xs : List α} {zs : List γ} {D : Addr} {i : Nat} {x : α} {σ2 : L2.St} (hx : xs[i]? = some x) (hs : sz xs.length = true) (p : Lw G0 H0 T f f2 xs zs D i H)
    (ht : ∀ G', Ex G0 G' → Ex H0 H → Ex G' H → ET tt σ2 H (f x)) (he : ∀ G' H', Ex G0 G' → Ex H0 H' → Ex H H' → Ex G' H' → E te σ2 G' H' T (f2 x)) :
    tt σ2 H fun b H3 => if b = true then te σ2 H3 fun y H4 => ∃ acc, H4 D = some (.lst acc) ∧ acc.length < sizeLine ∧ Lw G0 H0 T f f2 xs zs D (i + 1) (upd H4 D (.lst (acc ++ [y]))) else Lw G0 H0 T f f2 xs zs D (i + 1) H3 := by
  obtain ⟨G, acc, ys, rest, p1, p2, p3, p4, p5, p6, p7, p8⟩ := p
  rw [drop_at hx] at p6
  obtain ⟨b, hb, p6⟩ := bindS p6
  have hi : i < xs.length := (List.getElem?_eq_some_iff.mp hx).1
  refine ht G p2.gg p2.hh p2.gh b hb H (Ex.refl _) _ fun H3 e3 => ?_
  cases b with
  | false => exact ⟨G, acc, ys, rest, p1, p2.trans (Up.same p2.gh e3), p3, e3 _ _ p4, p5, p6, p7, Nat.le_succ_of_le p8⟩
  | true =>
    obtain ⟨y, hy, p6⟩ := bindS p6
    obtain ⟨r2, hr, p6⟩ := bindS p6
    cases p6
    show te σ2 H3 _
    refine he G H3 p2.gg (p2.hh.trans e3) e3 (p2.gh.trans e3) y hy H3 (p2.gh.trans e3) (Ex.refl _) _ fun v H4 G4 u r => ?_
    have q2 : Up G0 H0 G4 H4 := (p2.trans (Up.same p2.gh e3)).trans u
    have q3 : G4 D = none := u.nw D (by rw [e3 _ _ p4]; simp) p3
    have q4 := u.hh _ _ (e3 _ _ p4)
    refine ⟨acc, q4, by rw [p5.length]; exact sz_lt (by have := of_decide_eq_true hs; omega), G4, acc ++ [v], ys ++ [y], r2, p1, ⟨q2.gg, fun a o h => ?_, Ex.mut q2.hh p1, q2.nw⟩, q3, upd_same, pr_app (Paired.mapP p5 fun _ _ => T.mono u.gg) (.cons r .nil), hr, by rw [List.append_assoc]; exact p7, by rw [List.length_append]; exact Nat.succ_le_succ p8⟩
    rw [upd_ne (fun z => by subst z; rw [q3] at h; cases h)]
    exact q2.gh a o h
theorem lw_end {G0 H0 H : Hp} {f : α → Option Bool} {f2 : α → Option γ} {xs : List α} {zs : List γ} {D : Addr} (p : Lw G0 H0 T f f2 xs zs D xs.length H) : ∃ G, H0 D = none ∧ Up G0 H0 G H ∧ Wd G H [(D, cL T zs)] := by
  obtain ⟨G, acc, ys, rest, p1, p2, p3, p4, p5, p6, p7, p8⟩ := p
  rw [List.drop_length] at p6
  cases p6
  rw [List.append_nil] at p7
  subst p7
  exact ⟨G, p1, p2, p2.gh, fun c hc => by
    rw [List.mem_singleton.mp hc]; exact ⟨p3, _, p4, acc, rfl, p5⟩, List.nodup_cons.mpr ⟨List.not_mem_nil, List.nodup_nil⟩⟩
theorem lw_start {G0 H0 : Hp} {f : α → Option Bool} {f2 : α → Option γ} {xs : List α} {zs : List γ} {D : Addr} (e : Ex G0 H0) (hD : H0 D = none) (h : lcM f f2 xs = some zs) : Lw G0 H0 T f f2 xs zs D 0 (upd H0 D (.lst [])) :=
  ⟨G0, [], [], zs, hD, up_new e hD, fresh_back e hD, upd_same, .nil, h, rfl, Nat.le_refl _⟩
theorem el_lcL {vs : List Nat} {j : Nat} {m : Option (List α)} {f : α → Option Bool} {f2 : α → Option γ} (h : E tl σ G W (rL R) m) (hw : ∀ x, wipe ((wipe σ vs).set j (some x)) vs = wipe σ vs)
    (ht : ∀ x v G' W', Ex G G' → Ex W W' → Ex G' W' → R.r G' v x → ET tt ((wipe σ vs).set j (some v)) W' (f x))
    (he : ∀ x v G' W', Ex G G' → Ex W W' → Ex G' W' → R.r G' v x → E te ((wipe σ vs).set j (some v)) G' W' T (f2 x)) :
    EL (tLc (iList K tl) (gName j) tt te vs) σ G W T (m >>= fun xs => lcS f f2 xs) := fun zs hz H e e' Q q => by
  obtain ⟨xs, hx, hz⟩ := bindS hz
  obtain ⟨hs, hz⟩ := lcS_ok hz
  refine h xs hx H e e' _ fun v H1 G1 u r => ?_
  obtain ⟨a, us, rfl, h2, h3⟩ := r
  refine ⟨a, rfl, ⟨us, Or.inl (Or.inl (u.gh a _ h2))⟩, fun D hD => lc_list (xs := us) (Lw G1 H1 T f f2 xs zs D) (lw_start u.gh hD hz) (fun i H' _ p => ?_) (fun i y H' hy p => ?_) fun H' p => ?_⟩
  · obtain ⟨G', _, _, _, _, p2, _⟩ := p
    exact Or.inl (Or.inl (p2.gh a _ (p2.gg a _ h2)))
  · obtain ⟨x, hx', r⟩ := pr_get' h3 hy
    exact ⟨hw y, lw_turn hx' hs p (fun G' e1 e2 e3 => ht x y G' H' (u.gg.trans e1) ((e'.trans u.hh).trans e2) e3 (R.mono e1 r)) fun G' H2 e1 e2 _ e3 => he x y G' H2 (u.gg.trans e1) ((e'.trans u.hh).trans e2) e3 (R.mono e1 r)⟩
  · rw [h3.length] at p
    obtain ⟨G', k1, k2, k3⟩ := lw_end p
    exact q D H' G' (fresh_back u.hh k1) (u.trans k2) k3
theorem el_lcR {ta : TA} {vs : List Nat} {j : Nat} {m : Option (Int × Unit)} {f : Int → Option Bool} {f2 : Int → Option γ} (h : EA ta σ G W (aC rI aN) m) (hw : ∀ x, wipe ((wipe σ vs).set j (some x)) vs = wipe σ vs)
    (ht : ∀ x G' W', Ex G G' → Ex W W' → Ex G' W' → ET tt ((wipe σ vs).set j (some (.int x))) W' (f x))
    (he : ∀ x G' W', Ex G G' → Ex W W' → Ex G' W' → E te ((wipe σ vs).set j (some (.int x))) G' W' T (f2 x)) :
    EL (tLc (iRng1 ta) (gName j) tt te vs) σ G W T (m >>= fun n => rngM 0 n.1 >>= fun xs => lcS f f2 xs) := fun zs hz H e e' Q q => by
  obtain ⟨n, hn, hz⟩ := bindS hz
  obtain ⟨xs, hx, hz⟩ := bindS hz
  obtain ⟨hs, hz⟩ := lcS_ok hz
  refine h n hn H e e' _ fun v H1 G1 u r => ?_
  obtain ⟨v1, ws, rfl, e1, rfl⟩ := r
  cases e1
  unfold rngM at hx
  split at hx
  · rename_i hb
    cases hx
    have hl : (rng 0 n.1).length = n.1.toNat := by rw [rng_len]; omega
    refine ⟨n.1, rfl, by omega, by omega, fun D hD => lc_range (lo := 0) (n := n.1.toNat) (Lw G1 H1 T f f2 (rng 0 n.1) zs D) (lw_start u.gh hD hz) (fun i H' hi p => ?_) fun H' p => ?_⟩
    · have hx' : (rng 0 n.1)[i]? = some (0 + (i : Int)) := rng_get (by omega)
      exact ⟨hw _, lw_turn hx' hs p (fun G' e1 e2 e3 => ht _ G' H' (u.gg.trans e1) ((e'.trans u.hh).trans e2) e3) fun G' H2 e1 e2 _ e3 => he _ G' H2 (u.gg.trans e1) ((e'.trans u.hh).trans e2) e3⟩
    · rw [← hl] at p
      obtain ⟨G', k1, k2, k3⟩ := lw_end p
      exact q D H' G' (fresh_back u.hh k1) (u.trans k2) k3
  · cases hx
theorem et_yes : ET tYes σ W (some true) := fun b hb H _ Q q => by
  cases hb
  exact q H (Ex.refl _)
/-- no test: mapS -/
theorem el_map {m : Option (List α)} {f2 : α → Option γ} {te : TE} (h : EL te σ G W T (m >>= fun xs => lcS (fun _ => some true) f2 xs)) : EL te σ G W T (m >>= fun xs => mapS f2 xs) := by rw [mapS_eq]; exact h
theorem el_mapR {m : Option (Int × Unit)} {f2 : Int → Option γ} {te : TE} (h : EL te σ G W T (m >>= fun n => rngM 0 n.1 >>= fun xs => lcS (fun _ => some true) f2 xs)) : EL te σ G W T (m >>= fun n => rngM 0 n.1 >>= fun xs => mapS f2 xs) := by rw [mapS_eq]; exact h
end
end Sim

namespace Sim
open PySem L2 Evl
section
variable {K : PySem.W.Frag} {σ : L2.St} {G0 H0 G H G2 H2 W : Hp} {ls : List Addr} {cs : Cs} {l : Addr} {cp cp' : CP} {ta tb te tc : TE} {t u : TT} {α β γ ι κ : Type} {R : Rep α} {S : Rep β} {T : Rep γ} {A : AR ι} {D : Ends} {tu tv tz : TS} {g : TG}
theorem et_andP {a b : Bool} (h1 : ET t σ W (some a)) (h2 : ET u σ W (some b)) : ET (tAnd t u) σ W (some (a && b)) := by
  have h := et_and h1 h2
  cases a <;> exact h
theorem et_orP {a b : Bool} (h1 : ET t σ W (some a)) (h2 : ET u σ W (some b)) : ET (tOr t u) σ W (some (a || b)) := by
  have h := et_or h1 h2
  cases a <;> exact h
/-- an option's value where it is one -/
theorem e_some {m : Option α} (h : E te σ G W R m) : E te σ G W (rO R) (m >>= fun x => some (some x)) := fun z hz H e e' Q q => by
  obtain ⟨x, hx, hz⟩ := bindS hz
  cases hz
  exact h x hx H e e' Q q
theorem e_none : E (tC .non) σ G W (rO R) (some none) := e_c rfl
theorem e_get {m : Option (Option α)} (h : E te σ G W (rO R) m) : E te σ G W R (m >>= fun x => x) := fun z hz H e e' Q q => by
  obtain ⟨x, hx, hz⟩ := bindS hz
  subst hz
  exact h _ hx H e e' Q q
theorem eal_nil : EAL 0 tNil σ G W R (some []) := fun x hx => by
  cases hx
  exact ⟨rfl, fun H e e' Q q => q [] H G (Up.refl e) .nil⟩
theorem eal_cons {n : Nat} {tr : TA} {ma : Option α} {mr : Option (List α)} (h : E ta σ G W R ma) (hr : EAL n tr σ G W R mr) : EAL (n + 1) (tCons ta tr) σ G W R (ma >>= fun x => mr >>= fun xs => some (x :: xs)) := fun z hz => by
  obtain ⟨x, hx, hz⟩ := bindS hz
  obtain ⟨xs, hxs, hz⟩ := bindS hz
  cases hz
  refine ⟨congrArg (· + 1) (hr xs hxs).1, fun H e e' Q q => ?_⟩
  refine h x hx H e e' _ fun v H1 G1 u1 r1 => ?_
  refine ((hr.mono u1.gg (e'.trans u1.hh)) xs hxs).2 H1 u1.gh (Ex.refl _) _ fun vs H2 G2 u2 r2 => ?_
  exact q (v :: vs) H2 G2 (u1.trans u2) (.cons (R.mono u2.gg r1) r2)
theorem el_disp {n : Nat} {ta : TA} {m : Option (List α)} (h : EAL n ta σ G W R m) (hn : n < 100000 := by decide) : EL (tLst ta) σ G W R m := fun z hz H e e' Q q => by
  refine (h z hz).2 H e e' _ fun vs H1 G1 u1 r1 => ?_
  refine ⟨sz_of (by rw [r1.length, (h z hz).1]; exact Nat.le_of_lt hn), fun p hp => q p _ G1 (fresh_back u1.hh hp) (u1.trans (up_new u1.gh hp)) (wd_new u1.gh hp r1)⟩
theorem e_tupH {n : Nat} {ta : TA} {m : Option (List α)} (h : EAL n ta σ G W R m) (hn : n < 100000 := by decide) : E (tTup ta) σ G W (rT R) m := fun z hz H e e' Q q => by
  refine (h z hz).2 H e e' _ fun vs H1 G1 u1 r1 => ?_
  refine ⟨sz_of (by rw [r1.length, (h z hz).1]; exact Nat.le_of_lt hn), fun p hp => q _ _ _ (u1.trans (Up.lay u1.gh hp)) ⟨p, vs, rfl, upd_same, Paired.mapP r1 fun _ _ => R.mono (Ex.new (fresh_back u1.gh hp))⟩⟩
/-! ### cuts, tests opened -/
theorem o_cut (M : L2.St → Hp → Prop) (h : tSeq tu (fun _ => M) D σ H) (k : ∀ σ' H', M σ' H' → tz D σ' H') : Evl.tCut tu tz D σ H := ⟨M, h, k⟩
theorem o_forR {ta : TA} (h : ta σ H fun vs H1 => ∃ j : Int, vs = [.int j] ∧ -(2 ^ 62) ≤ j ∧ j < 2 ^ 62 ∧ (fun (J : It) (H1 : Hp) => ∃ W : Nat → Nat → L2.St → Hp → Prop, (∃ m, W 0 m σ H1) ∧ ∀ i m σ H, W i m σ H →
      (J.stop i H ∧ tz D σ H) ∨ (J.go i H ∧ ∃ N : L2.St → Hp → Prop, (∀ σ' H', N σ' H' → ∃ m', m' < m ∧ W (i + 1) m' σ' H') ∧ ∀ x H', J.yld i H x H' → g x σ H' fun σ2 H2 => tu { D with nx := N, ct := N, bk := tz D } σ2 H2)) (Itr 0 j.toNat) H1) : tSeq (tFor (iRng1 ta) g tu) tz D σ H := h
/-- for i in range(n), n reckoned -/
theorem v_forR {n : Int} {xs : List Int} (w : Wo G0 H0 ls G H cs) (hx : rngM 0 n = some xs) (P : Nat → Hp → Hp → L2.St → Prop)
    (h0 : P 0 G H σ)
    (hs : ∀ i x σ' G' H', xs[i]? = some x → P i G' H' σ' → g (.int x) σ' H' fun σ2 H2 => tu { D with nx := fun σ' H' => ∃ G', P (i + 1) G' H' σ', ct := fun σ' H' => ∃ G', P (i + 1) G' H' σ', bk := tz D } σ2 H2)
    (hd : ∀ σ' G' H', P xs.length G' H' σ' → tz D σ' H') : ∃ j : Int, [V.int n] = [.int j] ∧ -(2 ^ 62) ≤ j ∧ j < 2 ^ 62 ∧ (fun (J : It) (H1 : Hp) => ∃ W : Nat → Nat → L2.St → Hp → Prop, (∃ m, W 0 m σ H1) ∧ ∀ i m σ H, W i m σ H →
      (J.stop i H ∧ tz D σ H) ∨ (J.go i H ∧ ∃ N : L2.St → Hp → Prop, (∀ σ' H', N σ' H' → ∃ m', m' < m ∧ W (i + 1) m' σ' H') ∧ ∀ x H', J.yld i H x H' → g x σ H' fun σ2 H2 => tu { D with nx := N, ct := N, bk := tz D } σ2 H2)) (Itr 0 j.toNat) H := by
  unfold rngM at hx
  split at hx
  · rename_i hb
    cases hx
    refine ⟨n, rfl, by omega, by omega, for_range (lo := 0) (n := n.toNat) (D := { D with nx := tz D }) (fun i σ' H' => ∃ G', P i G' H' σ') ⟨G, h0⟩ ?_ ?_⟩
    · rintro i σ' H' hi ⟨G', p⟩
      exact hs i _ σ' G' H' (rng_get (by omega)) p
    · rintro σ' H' ⟨G', p⟩
      refine hd σ' G' H' ?_
      rw [rng_len]
      have : (n - 0).toNat = n.toNat := by omega
      rw [this]; exact p
  · cases hx
end
end Sim

namespace Sim
open PySem L2 Evl
section
variable {K : PySem.W.Frag} {σ : L2.St} {G0 H0 G H G2 H2 W : Hp} {ls : List Addr} {cs : Cs} {l : Addr} {cp cp' : CP} {ta tb te tc : TE} {t u : TT} {α β γ ι κ : Type} {R : Rep α} {S : Rep β} {T : Rep γ} {A : AR ι} {D : Ends} {tu tv tz : TS} {g : TG}
theorem e_neg {m : Option Int} (h : E te σ G W rI m) : E (tUn (L2.rU fun i => .int (-i)) te) σ G W rI (m >>= fun x => some (-x)) := fun z hz H e e' Q q => by
  obtain ⟨x, hx, hz⟩ := bindS hz
  cases hz
  exact h x hx H e e' _ fun v H1 G1 u r => ⟨x, r, q _ H1 G1 u rfl⟩
/-- the cells in another order -/
theorem Wo.perm (w : Wo G0 H0 ls G H cs) (p : List Nat) (hp : p.Nodup) (hl : ∀ i ∈ p, i < cs.length) : Wo G0 H0 ls G H (p.filterMap fun i => cs[i]?) := by
  have hm : ∀ c ∈ p.filterMap (fun i => cs[i]?), c ∈ cs := fun c hc => by
    obtain ⟨i, _, e⟩ := List.mem_filterMap.mp hc
    exact List.mem_of_getElem? e
  refine ⟨⟨w.ex, fun c hc => w.w.at_ c (hm c hc), ?_⟩, w.f, fun c hc => w.lo c (hm c hc)⟩
  clear hm
  induction p with
  | nil => exact List.nodup_nil
  | cons i p ih =>
    have hi : i < cs.length := hl i (List.mem_cons_self ..)
    rw [List.filterMap_cons, List.getElem?_eq_getElem hi]
    refine List.nodup_cons.mpr ⟨fun h => ?_, ih (List.nodup_cons.mp hp).2 fun j hj => hl j (List.mem_cons_of_mem _ hj)⟩
    obtain ⟨c, hc, e⟩ := List.mem_map.mp h
    obtain ⟨j, hj, ej⟩ := List.mem_filterMap.mp hc
    have h1 : (cs.map (·.1))[i]? = some cs[i].1 := by rw [List.getElem?_map, List.getElem?_eq_getElem hi]; rfl
    have h2 : (cs.map (·.1))[j]? = some cs[i].1 := by rw [List.getElem?_map, ej]; exact congrArg some e
    have := nodup_ix w.w.nd h1 h2
    subst this
    exact (List.nodup_cons.mp hp).1 hj
theorem Wo.sub2 {i j : Nat} {l' : Addr} (w : Wo G0 H0 ls G H cs) (h : cs[i]? = some (l, cp)) (h' : cs[j]? = some (l', cp')) (ne : i ≠ j) : Wd G H [(l, cp), (l', cp')] := ⟨w.ex, fun c hc => by
  rcases List.mem_cons.mp hc with hc | hc
  · subst hc; exact w.w.at_ _ (List.mem_of_getElem? h)
  · rw [List.mem_singleton.mp hc]; exact w.w.at_ _ (List.mem_of_getElem? h'), by
  refine List.nodup_cons.mpr ⟨fun z => ?_, List.nodup_cons.mpr ⟨List.not_mem_nil, List.nodup_nil⟩⟩
  have e : l = l' := List.mem_singleton.mp z
  have h1 : (cs.map (·.1))[i]? = some l := by rw [List.getElem?_map, h]; rfl
  have h2 : (cs.map (·.1))[j]? = some l := by rw [List.getElem?_map, h', e]; rfl
  exact ne (nodup_ix w.w.nd h1 h2)⟩
theorem x_forT {xs : List α} {tl : TE} {m : Option (List α)} (w : Wo G0 H0 ls G H cs) (h : E tl σ G H (rT R) m) (hm : m = some xs) (P : Nat → Hp → Hp → L2.St → Prop) (hP : ∀ i G' H' σ', P i G' H' σ' → Ex G' H')
    (h0 : ∀ G' H', Wo G0 H0 ls G' H' cs → Ex G G' → P 0 G' H' σ)
    (hs : ∀ G1, Ex G G1 → ∀ i x v σ' G' H', xs[i]? = some x → Ex G1 G' → P i G' H' σ' → R.r G' v x → g v σ' H' fun σ2 H2 => tu { D with nx := fun σ' H' => ∃ G', Ex G1 G' ∧ P (i + 1) G' H' σ', ct := fun σ' H' => ∃ G', Ex G1 G' ∧ P (i + 1) G' H' σ', bk := tz D } σ2 H2)
    (hd : ∀ σ' G' H', Ex G G' → P xs.length G' H' σ' → tz D σ' H') : tSeq (tFor (iTup K tl) g tu) tz D σ H :=
  h xs hm H w.ex (Ex.refl _) _ fun v H1 G1 u r => by
    obtain ⟨a, vs, rfl, h2, h3⟩ := r
    refine ⟨a, rfl, ⟨vs, Or.inl (Or.inl (u.gh a _ h2))⟩, for_tup (K := K) (a := a) (xs := vs) (fun i σ' H' => ∃ G', Ex G1 G' ∧ P i G' H' σ') ⟨G1, Ex.refl _, h0 G1 H1 (w.up u) u.gg⟩ ?_ ?_ ?_⟩
    · rintro i σ' H' _ ⟨G', e, p⟩
      exact Or.inl (Or.inl (hP _ _ _ _ p a _ (e a _ h2)))
    · rintro i y σ' H' hy ⟨G', e, p⟩
      obtain ⟨x, hx, r⟩ := pr_get' h3 hy
      exact hs G1 u.gg i x y σ' G' H' hx e p (R.mono e r)
    · rintro σ' H' ⟨G', e, p⟩
      rw [h3.length] at p
      exact hd σ' G' H' (u.gg.trans e) p
end
/-! ### the text's facts -/
section
variable {fa : List He.Fa} {fn : List He.DefD} {K : PySem.W.Frag} {mg : Str → Option Value} {P : Program} {w : World} {base : Heap}
theorem Tx.def_ (T : Tx fa fn K mg) (i : Nat) {d : He.DefD} (h : fn[i]? = some d) : ∃ fd, FunD K d.name d.qual d.params d.body d.scope (d.dvs K) (d.kws K) (He.fAd K d.at_) fd := T.c.def_ i h
/-- a def by its name, with its promise -/
def Fk (P : Program) (w : World) (K : PySem.W.Frag) (mg : Str → Option Value) (base : Heap) (CX : CXT) (k : Nat) (x : Str) (ps : List Str) (sp : Sp) : Prop :=
  ∃ fd, FnOk P w K mg base CX k (He.ga K x) fd ps sp ∧ Binds K fd ps [] ∧ PySem.W.keepIn K (.ref (He.ga K x)) = true ∧ mg x = some (.ref (He.ga K x))
theorem fk_mk {CX : CXT} {k : Nat} {x qual : Str} {ps : List Str} {sp : Sp} {fd : FuncData} {params : Arguments} {body : List Stmt} {scope : Scope} (T : Tx fa fn K mg) (g : mg x = some (.ref (He.ga K x))) (F : FunD K x qual params body scope [] [] (He.ga K x) fd)
    (hb : ∀ (kV doc pm : Value) (an : Option Addr) (cdv ct : Value) (us : List Value), us.length = ps.length → bindArgs (PySem.W.fnOf x qual params body scope .none kV doc pm an cdv ct) ⟨us, []⟩ = pure (ps.zip us))
    (h : FnOk P w K mg base CX k (He.ga K x) fd ps sp) : Fk P w K mg base CX k x ps sp := ⟨fd, h, F.bindsN hb, F.kp, g⟩
end
end Sim

namespace Sim
open PySem L2 Evl
/-! ### the hook: facts, defs, and further Bools -/
structure SaysE (fa : List He.Fa) (fn : List He.DefD) (ex : List (PySem.W.Frag → Bool)) (K : PySem.W.Frag) : Prop where
  d : He.SaysD fa fn K
  x : (ex.all fun e => e K) = true
theorem TxE.mo {fa : List He.Fa} {fn : List He.DefD} {ex : List (PySem.W.Frag → Bool)} {K : PySem.W.Frag} {mg : Str → Option Value} (T : TxE fa fn ex K mg) (i : Nat) {e : PySem.W.Frag → Bool} (h : ex[i]? = some e) : e K = true := List.all_eq_true.mp T.x e (List.mem_of_getElem? h)
theorem TxE.con {fa : List He.Fa} {fn : List He.DefD} {ex : List (PySem.W.Frag → Bool)} {K : PySem.W.Frag} {mg : Str → Option Value} (T : TxE fa fn ex K mg) (i : Nat) {C f : Str} {v : He.Dv} (h : ex[i]? = some fun K => He.conB K C f v) (hc : PySem.W.copiedNames.contains f = false := by decide) : ∃ u, Con K (He.ga K C) f (v.v K) u := He.conB_ok (T.mo i h) hc
/-! ### objects -/
def pd {α : Type} (R : Rep α) (x : α) : Pd := ⟨fun H v => R.r H v x, fun e h => R.mono e h⟩
theorem look_at {ns : List Str} : ∀ {fs : List (Str × V)} {f : Str} {i : Nat} {v : V}, fs.map (·.1) = ns → (ns.findIdx? (fun x => x == f)) = some i → (fs.map (·.2))[i]? = some v → fs.lookup f = some v := by
  intro fs
  induction fs generalizing ns with
  | nil => intro f i v h1 h2 h3; simp at h3
  | cons q fs ih =>
    intro f i v h1 h2 h3
    obtain ⟨n, w⟩ := q
    subst h1
    rw [List.map_cons, List.findIdx?_cons] at h2
    rw [List.lookup_cons]
    by_cases hn : (n == f) = true
    · rw [if_pos hn] at h2
      cases h2
      have hf : (f == n) = true := by rw [beq_iff_eq] at hn ⊢; exact hn.symm
      rw [hf]
      simpa using h3
    · rw [if_neg hn] at h2
      obtain ⟨j, hj, e⟩ := Option.map_eq_some_iff.mp h2
      subst e
      have hf : (f == n) = false := by
        cases q : (f == n) with
        | false => rfl
        | true => rw [beq_iff_eq] at q; exact absurd (by rw [beq_iff_eq]; exact q.symm) hn
      rw [hf]
      exact ih rfl hj (by simpa using h3)
theorem look_no {ns : List Str} : ∀ {fs : List (Str × V)} {f : Str}, fs.map (·.1) = ns → ns.contains f = false → fs.lookup f = none := by
  intro fs
  induction fs generalizing ns with
  | nil => intro f _ _; rfl
  | cons q fs ih =>
    intro f h1 h2
    obtain ⟨n, w⟩ := q
    subst h1
    rw [List.map_cons, List.contains_cons, Bool.or_eq_false_iff] at h2
    rw [List.lookup_cons, h2.1]
    exact ih rfl h2.2
theorem putF_new {f : Str} {v : V} : ∀ {fs : List (Str × V)}, (fs.map (·.1)).contains f = false → putF f v fs = fs ++ [(f, v)]
  | [], _ => rfl
  | (n, w) :: fs, h => by
    rw [List.map_cons, List.contains_cons, Bool.or_eq_false_iff] at h
    have hn : ¬ (n = f) := fun e => by subst e; simp at h
    unfold putF
    rw [if_neg hn, putF_new h.2]; rfl
section
variable {K : PySem.W.Frag} {σ : L2.St} {G0 H0 G H G2 H2 W : Hp} {ls : List Addr} {cs : Cs} {l C : Addr} {cp cp' : CP} {ta tb te tc to : TE} {t u : TT} {α β γ ι κ : Type} {R : Rep α} {S : Rep β} {T : Rep γ} {A : AR ι} {D : Ends} {tu tv tz : TS} {g : TG} {ns : List Str} {fl : α → List Pd}
/-- o.f -/
theorem e_fld {m : Option α} {f : Str} (i : Nat) (p : α → β) (h : E to σ G W (rObj C ns fl) m) (hc : Cls K C) (hn : NoAttr K C f) (hi : ns.findIdx? (fun x => x == f) = some i) (hp : ∀ x, (fl x)[i]? = some (pd S (p x))) : E (tFld K to f) σ G W S (m >>= fun x => some (p x)) := fun z hz H e e' Q q => by
  obtain ⟨x, hx, hz⟩ := bindS hz
  cases hz
  refine h x hx H e e' _ fun v H1 G1 u r => ?_
  obtain ⟨a, dx, fs, rfl, h2, h3⟩ := r
  obtain ⟨w, hw, r2⟩ := pr_get h3.2 (hp x)
  exact ⟨a, C, dx, fs, w, rfl, u.gh a _ h2, hc, hn, look_at h3.1 hi hw, q w H1 G1 u r2⟩
/-- o.m(..) -/
theorem e_meth {m : Option α} {mi : Option ι} {me : Str} {f : α × ι → Option γ} {ta : TA} {X : XK} (h : E to σ G W (rObj C ns fl) m) (ha : EA ta σ G W A mi) (hi : ns.contains me = false) : E (tMeth C me (PF (aC (rObj C ns fl) A) T f) [] X to ta) σ G W T (m >>= fun o => mi >>= fun i => f (o, i)) := fun z hz H e e' Q q => by
  obtain ⟨x, hx, hz⟩ := bindS hz
  obtain ⟨y, hy, hz⟩ := bindS hz
  refine h x hx H e e' _ fun v H1 G1 u r => ?_
  obtain ⟨a, dx, fs, rfl, h2, h3⟩ := r
  refine ⟨a, dx, fs, rfl, u.gh a _ h2, look_no h3.1 hi, ?_⟩
  refine (ha.mono u.gg (e'.trans u.hh)) y hy H1 u.gh (Ex.refl _) _ fun vs H3 G3 u3 r3 => ?_
  rw [List.append_nil]
  exact ⟨G3, (x, y), z, u3.gh, ⟨.ref a, vs, rfl, ⟨a, dx, fs, rfl, u3.gg a _ h2, h3.mono u3.gg⟩, r3⟩, hz, fun v H4 G4 u4 r4 => q v H4 G4 ((u.trans u3).trans u4) r4⟩
/-- the promise of an __init__: fields of the new object -/
def PI {ι α : Type} (C : Addr) (A : AR ι) (ns : List Str) (fl : α → List Pd) (f : ι → Option α) : Sp := fun vs H Q _ => ∃ G x ws i o, vs = .ref x :: ws ∧ Wd G H [(x, cI C [] [])] ∧ A.r G ws i ∧ f i = some o ∧
  ∀ H2 G2, Fr G H G2 H2 [x] → Wd G2 H2 [(x, cI C ns (fl o))] → Q .non H2
theorem ob_freeze {p : Addr} {ps : List Pd} (w : Wd G H [(p, cI C ns ps)]) : ∃ G2, Ex G G2 ∧ Ex G2 H ∧ (∀ a, a ≠ p → G a = none → G2 a = none) ∧ ∃ dx fs, G2 p = some (.ins C dx fs) ∧ Fl ns ps G2 fs := by
  obtain ⟨h1, o, h2, dx, fs, rfl, h3⟩ := w.head
  refine ⟨upd G p (.ins C dx fs), Ex.new h1, fun a u' e => ?_, fun a ne h => by rw [upd_ne ne]; exact h, dx, fs, upd_same, h3.mono (Ex.new h1)⟩
  by_cases q : a = p
  · subst q; rw [upd_same] at e; cases e; exact h2
  · rw [upd_ne q] at e; exact w.ex a u' e
theorem new_ins {x dx : Addr} (e : Ex G H) (nx : H x = none) (ndx : H dx = none) (ne : dx ≠ x) : Wd G (upd (upd H dx (.own x)) x (.ins C dx [])) [(x, cI C [] [])] := by
  have nx' : (upd H dx (.own x)) x = none := by rw [upd_ne ne.symm]; exact nx
  have e1 : Ex G (upd H dx (.own x)) := e.trans (Ex.new ndx)
  exact (Wd.nil e1).new nx' ⟨dx, [], rfl, rfl, .nil⟩
/-- C(..) -/
theorem e_make {f : ι → Option α} {ta : TA} {mi : Option ι} {X : XK} (ha : EA ta σ G W A mi) : E (tMake C (PI C A ns fl f) [] X ta) σ G W (rObj C ns fl) (mi >>= f) := fun z hz H e e' Q q => by
  obtain ⟨i, hi, hz⟩ := bindS hz
  refine ha i hi H e e' _ fun vs H1 G1 u1 r1 => ?_
  intro x dx nx ndx ne
  rw [List.append_nil]
  have w1 : Wd G1 (upd (upd H1 dx (.own x)) x (.ins C dx [])) [(x, cI C [] [])] := new_ins u1.gh nx ndx ne
  refine ⟨G1, x, vs, i, z, rfl, w1, r1, hz, fun H2 G2 fr w2 => ⟨rfl, ?_⟩⟩
  obtain ⟨G3, k1, k2, k3, dx', fs, k4, k5⟩ := ob_freeze w2
  have hh : Ex H1 H2 := fun a o h => by
    have na : a ≠ x := ne_of_none h nx
    have nd : a ≠ dx := ne_of_none h ndx
    exact fr.fr a o (by rw [upd_ne na, upd_ne nd]; exact h) fun z => na (List.mem_singleton.mp z)
  have up : Up G1 H1 G3 H2 := ⟨fr.gg.trans k1, k2, hh, fun a h1 h2 => by
    have na : a ≠ x := fun z => by subst z; exact h1 nx
    have nd : a ≠ dx := fun z => by subst z; exact h1 ndx
    exact k3 a na (fr.nw a (by rw [upd_ne na, upd_ne nd]; exact h1) h2)⟩
  exact q _ H2 G3 (u1.trans up) ⟨x, dx', fs, rfl, k4, k5⟩
/-- self.f = e, a new field -/
theorem x_fldN {i j : Nat} {f : Str} {m : Option β} {x : β} {ps : List Pd} (w : Wo G0 H0 ls G H cs) (hc : cs[j]? = some (l, cI C ns ps)) (hi : σ[i]? = some (some (.ref l))) (h : E te σ G H S m) (hm : m = some x) (hC : Cls K C) (hn : NoAttr K C f) (hz : ns.contains f = false) (hs : ns.length < 1000)
    (k : ∀ H2 G2, Wo G0 H0 ls G2 H2 (cs.set j (l, cI C (ns ++ [f]) (ps ++ [pd S x]))) → Ex G G2 → tz D σ H2) : tSeq (sFld K (tVar i) te f) tz D σ H :=
  h x hm H w.ex (Ex.refl _) (fun y H1 => tVar i σ H1 fun x H2 => ∃ a C dx fs, x = .ref a ∧ H2 a = some (.ins C dx fs) ∧ Cls K C ∧ NoAttr K C f ∧ fs.length < 1000 ∧ tz D σ (upd H2 a (.ins C dx (putF f y fs)))) fun v H3 G3 u r => by
    have w3 := w.up u
    obtain ⟨_, o3, k2, dx, fs, rfl, k3⟩ := w3.w.getAt hc
    refine ⟨.ref l, hi, l, C, dx, fs, rfl, k2, hC, hn, by rw [← List.length_map (f := (·.1)), k3.1]; exact hs, ?_⟩
    rw [putF_new (by rw [k3.1]; exact hz)]
    refine k _ _ (w3.writeAt hc ⟨dx, _, rfl, ?_, ?_⟩) u.gg
    · rw [List.map_append, k3.1]; rfl
    · rw [List.map_append]; exact pr_app k3.2 (.cons r .nil)
theorem o_try {tb : TS} (h : tb { D with nx := tz D } σ H) : tSeq tb tz D σ H := h
theorem x_call {m : Option α} {x : α} (w : Wo G0 H0 ls G H cs) (h : E te σ G H R m) (hm : m = some x) (k : ∀ H2, Wo G0 H0 ls G H2 cs → tz D σ H2) : tSeq (tDrop te) tz D σ H :=
  h x hm H w.ex (Ex.refl _) (fun _ H1 => tz D σ H1) fun v H2 G2 u r => k H2 (w.sc u.hh)
/-! ### isinstance, the kind known -/
/-! ### == of data -/
def rNeP (K : PySem.W.Frag) : R2 := fun x y H Q => ∃ d e, Dp K H x d ∧ Dp K H y e ∧ (d.plain = true ∧ d.depth ≤ 64) ∧ (e.plain = true ∧ e.depth ≤ 64) ∧ Q (.bl (!PyData.eqv d e)) H
theorem op_neP {X : Cx} (hu : X.A.units + 64 < cLine) : OpR X (compareOp .NotEq) (rNeP X.K) := by
  intro pins s σ H x y v u Q I rx ry h
  obtain ⟨d, e, hd, he, sd, se, q⟩ := h
  obtain ⟨as, r1⟩ := Dp.reads I d x v hd rx
  obtain ⟨bs, r2⟩ := Dp.reads I e y u he ry
  exact SeqAt.ne_plain r1 r2 sd.1 se.1 (by have := sd.2; omega) ⟨.bl _, H, I, rfl, q⟩
structure Dt (R : Rep α) (d : α → PyData) (n : Nat) : Prop where
  dp : ∀ {K : PySem.W.Frag} {H : Hp} {v : V} {x : α}, R.r H v x → Dp K H v (d x)
  lay : ∀ x, (d x).plain = true
  dep : ∀ x, (d x).depth ≤ n
  eq : ∀ x y, PyData.eqv (d x) (d y) = true ↔ x = y
theorem dtI : Dt rI PyData.int 0 := ⟨fun h => by rw [show _ = V.int _ from h]; exact .int _, fun _ => rfl, fun _ => Nat.le_refl _, fun x y => by simp [PyData.eqv]⟩
end
end Sim

namespace Sim
open PySem L2 Evl
section
variable {K : PySem.W.Frag} {σ : L2.St} {G0 H0 G H G2 H2 W : Hp} {ls : List Addr} {cs : Cs} {l C : Addr} {cp cp' : CP} {ta tb te tc to : TE} {t u : TT} {α β γ ι κ : Type} {R : Rep α} {S : Rep β} {T : Rep γ} {A : AR ι} {D : Ends} {tu tv tz : TS} {g : TG} {ns : List Str} {fl : α → List Pd}
/-! ### a list lent to a def that only reads it -/
theorem Wo.lent {i : Nat} {B : Rep κ} {ys : List κ} (w : Wo G0 H0 ls G H cs) (h : cs[i]? = some (l, cL B ys)) : Lent G H l B ys := by
  obtain ⟨h1, o, h2, vs, rfl, h3⟩ := w.w.getAt h
  exact ⟨h1, vs, h2, h3⟩
/-- still lent, as the def goes on -/
theorem Wo.lentOf {B : Rep κ} {ys : List κ} (w : Wo G0 H0 ls G H cs) (L : Lent G0 H0 l B ys) (h : l ∉ ls) : Lent G H l B ys := by
  obtain ⟨vs, h2, h3⟩ := L.at_
  exact ⟨w.f.nw _ (by rw [h2]; simp) L.n, vs, w.f.fr _ _ h2 h, Paired.mapP h3 fun _ _ => B.mono w.f.gg⟩
theorem x_forN {i : Nat} {xs : List α} (w : Wo G0 H0 ls G H cs) (L : Lent G0 H0 l R xs) (hl : l ∉ ls) (hi : σ[i]? = some (some (.ref l))) (P : Nat → Hp → Hp → L2.St → Prop) (hP : ∀ i G' H' σ', P i G' H' σ' → ∃ cs', Wo G0 H0 ls G' H' cs')
    (h0 : P 0 G H σ)
    (hs : ∀ i x v σ' G' H', xs[i]? = some x → P i G' H' σ' → R.r G' v x → g v σ' H' fun σ2 H2 => tu { D with nx := fun σ' H' => ∃ G', P (i + 1) G' H' σ', ct := fun σ' H' => ∃ G', P (i + 1) G' H' σ', bk := tz D } σ2 H2)
    (hd : ∀ σ' G' H', P xs.length G' H' σ' → tz D σ' H') : tSeq (tFor (iList K (tVar i)) g tu) tz D σ H := by
  obtain ⟨vs, h2, h3⟩ := L.at_
  refine ⟨.ref l, hi, l, rfl, ⟨vs, Or.inl (Or.inl (w.f.fr _ _ h2 hl))⟩, for_list (K := K) (a := l) (xs := vs) (D := { D with nx := tz D }) (fun i σ' H' => ∃ G', P i G' H' σ') ⟨G, h0⟩ ?_ ?_ ?_⟩
  · rintro i σ' H' _ ⟨G', p⟩
    obtain ⟨cs', w'⟩ := hP _ _ _ _ p
    exact Or.inl (Or.inl (w'.f.fr _ _ h2 hl))
  · rintro i y σ' H' hy ⟨G', p⟩
    obtain ⟨x, hx, r⟩ := pr_get' h3 hy
    obtain ⟨cs', w'⟩ := hP _ _ _ _ p
    exact hs i x y σ' G' H' hx p (R.mono w'.f.gg r)
  · rintro σ' H' ⟨G', p⟩
    rw [h3.length] at p
    exact hd σ' G' H' p
end
/-! ### a method by its name, with its promise -/
def Fm (P : Program) (w : World) (K : PySem.W.Frag) (mg : Str → Option Value) (base : Heap) (CX : CXT) (k : Nat) (c m : Str) (ps : List Str) (sp : Sp) : Prop :=
  ∃ fd, FnOk P w K mg base CX k (He.ma K (He.ga K c) m) fd ps sp ∧ Binds K fd ps []
theorem fm_mk {K : PySem.W.Frag} {mg : Str → Option Value} {P : Program} {w : World} {base : Heap} {CX : CXT} {k : Nat} {c m x qual : Str} {ps : List Str} {sp : Sp} {fd : FuncData} {params : Arguments} {body : List Stmt} {scope : Scope} (F : FunD K x qual params body scope [] [] (He.ma K (He.ga K c) m) fd)
    (hb : ∀ (kV doc pm : Value) (an : Option Addr) (cdv ct : Value) (us : List Value), us.length = ps.length → bindArgs (PySem.W.fnOf x qual params body scope .none kV doc pm an cdv ct) ⟨us, []⟩ = pure (ps.zip us))
    (h : FnOk P w K mg base CX k (He.ma K (He.ga K c) m) fd ps sp) : Fm P w K mg base CX k c m ps sp := ⟨fd, h, F.bindsN hb⟩
/-! ### data that is compared -/
section
variable {α β : Type} {R : Rep α} {S : Rep β}
theorem pr_dp {d : α → PyData} {n : Nat} (h : Dt R d n) {K : PySem.W.Frag} {H : Hp} : ∀ {vs : List V} {xs : List α}, Paired (R.r H) vs xs → DpAll K H vs (xs.map d)
  | _, _, .nil => .nil
  | _, _, .cons r t => .cons (h.dp r) (pr_dp h t)
theorem layAll {d : α → PyData} {n : Nat} (h : Dt R d n) : ∀ xs : List α, PyData.plainAll (xs.map d) = true
  | [] => rfl
  | x :: xs => Bool.and_eq_true_iff.mpr ⟨h.lay x, layAll h xs⟩
theorem depAll {d : α → PyData} {n : Nat} (h : Dt R d n) : ∀ xs : List α, PyData.depthAll (xs.map d) ≤ n
  | [] => Nat.zero_le _
  | x :: xs => Nat.max_le.mpr ⟨h.dep x, depAll h xs⟩
theorem eqAll {d : α → PyData} {n : Nat} (h : Dt R d n) : ∀ xs ys : List α, PyData.eqvAll (xs.map d) (ys.map d) = true ↔ xs = ys
  | [], [] => by simp [PyData.eqvAll]
  | x :: xs, y :: ys => by
    simp only [List.map_cons, PyData.eqvAll, Bool.and_eq_true, h.eq, eqAll h xs ys, List.cons.injEq]
  | [], y :: ys => by simp [PyData.eqvAll]
  | x :: xs, [] => by simp [PyData.eqvAll]
theorem dtL {d : α → PyData} {n : Nat} (h : Dt R d n) : Dt (rL R) (fun xs => PyData.list (xs.map d)) (n + 1) :=
  ⟨fun ⟨a, vs, e, h2, h3⟩ => by rw [e]; exact .lst (Or.inl (Or.inl h2)) (pr_dp h h3), fun xs => layAll h xs, fun xs => Nat.succ_le_succ (depAll h xs), fun xs ys => by simp only [PyData.eqv]; exact eqAll h xs ys⟩
theorem dtP {d : α → PyData} {f : β → PyData} {n k : Nat} (h : Dt R d n) (h' : Dt S f k) : Dt (rP R S) (fun p => PyData.tuple [d p.1, f p.2]) (max n k + 1) :=
  ⟨fun ⟨a, x, y, e, h2, h3, h4⟩ => by rw [e]; exact .tup (Or.inl (Or.inl h2)) (.cons (h.dp h3) (.cons (h'.dp h4) .nil)), fun p => by
    show (PyData.plain _ && (PyData.plain _ && true)) = true
    rw [h.lay, h'.lay]; rfl, fun p => by
    show max (PyData.depth _) (max (PyData.depth _) 0) + 1 ≤ _
    have := h.dep p.1; have := h'.dep p.2; omega, fun p q => by
    simp only [PyData.eqv, PyData.eqvAll, Bool.and_eq_true, h.eq, h'.eq, and_true]
    exact ⟨fun ⟨a, b⟩ => Prod.ext a b, fun e => by subst e; exact ⟨rfl, rfl⟩⟩⟩
end
end Sim
namespace Sim
open PySem L2 Evl
section
variable {K : PySem.W.Frag} {σ : L2.St} {G0 H0 G H G2 H2 W : Hp} {ls : List Addr} {cs : Cs} {l C : Addr} {te : TE} {α β : Type} {R : Rep α} {S : Rep β} {ns : List Str}
/-- the script -/
def rScr (K : PySem.W.Frag) : Rep (List Int) := ⟨fun H v xs => ∃ a, v = .ref a ∧ SqL K H a (xs.map V.int), fun e ⟨a, h1, h2⟩ => ⟨a, h1, ex_l e h2⟩⟩
theorem rr_ixScr : RR (rIxL K) (rScr K) rI rI (fun xs i => atI xs i) := fun v w xs i z H G hv hw hz e Q q => by
  obtain ⟨a, rfl, h2⟩ := hv
  cases hw
  have hz' : (ixN xs.length i).bind (fun j => xs[j]?) = some z := hz
  cases hj : ixN xs.length i with
  | none => rw [hj] at hz'; cases hz'
  | some j =>
    rw [hj] at hz'
    have hz2 : xs[j]? = some z := hz'
    refine ⟨a, _, i, .int z, rfl, rfl, ex_l e h2, ?_, q _ H G (Up.refl e) rfl⟩
    show (ixN (xs.map V.int).length i).bind (fun j => (xs.map V.int)[j]?) = some (.int z)
    rw [List.length_map, hj]
    show (xs.map V.int)[j]? = _
    rw [List.getElem?_map, hz2]; rfl
theorem rc_lenScr : RC (rLn K) (aC (rScr K) aN) rI (fun i => some (i.1.length : Int)) := fun vs i z H G hv hz e Q q => by
  cases hz
  obtain ⟨v, ws, rfl, ⟨a, rfl, h2⟩, rfl⟩ := hv
  refine ⟨a, _, rfl, Or.inl (ex_l e h2), q _ H G (Up.refl e) ?_⟩
  show V.int _ = V.int _
  rw [List.length_map]
def powM (a b : Int) : Option Int := if 0 ≤ b ∧ b ≤ 1000000 ∧ a.natAbs < 2 ^ 64 then some (a ^ b.toNat) else none
theorem rr_pow : RR (L2.rI CPow fun i j => .int (i ^ j.toNat)) rI rI rI powM := rr_I fun i j z h => by
  unfold powM at h
  split at h
  · rename_i hc; cases h; exact ⟨hc, fun _ => rfl⟩
  · cases h
/-- self.NAME while self is being made -/
theorem e_conC {G' : Hp} {i j : Nat} {f : Str} {v : V} {uu : Value} {x : β} {ps : List Pd} (w : Wo G0 H0 ls G H cs) (hc : cs[j]? = some (l, cI C ns ps)) (hi : σ[i]? = some (some (.ref l))) (hC : Cls K C) (hk : Con K C f v uu) (hz : ns.contains f = false) (hv : ∀ H, S.r H v x) : E (tCon K (tVar i) f) σ G' H S (some x) := fun y hy H' e e' Q q => by
  cases hy
  obtain ⟨_, o, k2, dx, fs, rfl, k3⟩ := w.w.getAt hc
  exact ⟨.ref l, hi, l, C, dx, fs, v, uu, rfl, e' _ _ k2, hC, hk, look_no k3.1 hz, q _ H' G' (Up.refl e) (hv G')⟩
theorem el_listRg {m : Option Int} (h : E te σ G W rI m) : EL (tLstRg (tRg1 te)) σ G W rI (m >>= fun n => rngM 0 n) := fun z hz H e e' Q q => by
  obtain ⟨n, hn, hz⟩ := bindS hz
  refine h n hn H e e' _ fun v H1 G1 u r => ?_
  unfold rngM at hz
  split at hz
  · rename_i hb
    cases hz
    refine ⟨n, r, ⟨by omega, by omega, by omega, by omega, by omega⟩, fun p hp => q p _ G1 (fresh_back u.hh hp) (u.trans (up_new u.gh hp)) (wd_new u.gh hp ?_)⟩
    have : rgV 0 n = (rng 0 n).map V.int := by unfold rgV rng; rw [List.map_map]; rfl
    rw [this]
    exact ints_pr _
  · cases hz
end
end Sim

set_option maxHeartbeats 4000000
/-! own exceptions: an __init__ whose first statement is super().__init__(text) -/
namespace Sim
open PySem PySem.Spec PyProof.Rows L2 PySem.W PySem.Calls NdefX
section
variable {CX : CXT} {P : Program} {w : World} {K : PySem.W.Frag} {mg : Str → Option Value} {base : Heap} {N ps : List Str} {F : NF} {C f : Addr} {fd : FuncData} {k : Nat} {sp : Sp} {t : Str} {rest : List Stmt} {p0 p1 p2 p3 p4 pc : Pos} {j : Nat} {pl : Sem Bool}
theorem fn_exc (S : NScope N ps ["__class__"] F.scope) (Y : SupC P K mg C f fd F ps) (hbd : F.body = .Expr (.Call (.Attribute (.Call (.Name "super" p0) [] [] p1) "__init__" p2) [.Constant (.str t) j pc] [] p3) p4 :: rest)
    (hev : ∀ L : Addr, eval (.Call (.Attribute (.Call (.Name "super" p0) [] [] p1) "__init__" p2) [.Constant (.str t) j pc] [] p3) (envF F f L) = (do
      let ov ← attributeBase (.Call (.Name "super" p0) [] [] p1) "__init__" (envF F f L) (eval (.Call (.Name "super" p0) [] [] p1) (envF F f L))
      standAt p2.atName
      let (g, first) ← holding [ov] (getMethod ov "__init__" pl)
      callWith p3 g first (backTo p3 (starEach [.Constant (.str t) j pc] (envF F f L))) []))
    (hint : ∀ L : Addr, interactive (envF F f L) = false)
    (len : ∀ vs H Q E, sp vs H Q E → vs.length = ps.length)
    (hbody : ∀ (A : Around) (outer : List Env) (s : Shared) (H : Hp) (vs : List V) (Q : VK) (E : XK), Room k (A.deeper (envF F f s.heap.objs.size)) → sp vs H Q E →
      ∃ a vs', vs = .ref a :: vs' ∧ H a = some (exo a C none) ∧ ∃ t, PSs (ncx CX P w K mg base N F f A outer s H E) rest t ∧ t { nx := fun _ H' => Q .non H', rt := Q } (startF N vs [none]) H) :
    FnOk P w K mg base CX (k + 1) f fd ps sp := by
  obtain ⟨oc, od, osl, kV, doc, pm, an, ct, rfl, lk⟩ := Y.lk
  refine ⟨len, fun A outer s H args us vs Q E hr e0 hb r hsp => ?_⟩
  have hl := len _ _ _ _ hsp
  have KX : K.In s.heap := e0.mod.kin.keeps fun b o e => (e0.bs b o e).1
  have lim : s.heap.NoLimit := e0.mod.nolimit.keeps fun b o e => (e0.bs b o e).1
  refine codeAny_call_function hr.depth (KX _ _ lk) rfl S.co S.gen rfl (PySem.W.codeRec_of KX Y.cd) (hb _ _ _ _ ?_)
  refine wpAny_newFunctionEnv S.nocell (fun ⟨n, _⟩ hy => S.par n (List.of_mem_zip hy).1) (fun h₁ hns hsb => ⟨lim.fresh _ hsb, ?_⟩) S.kind
  show codeAny _ _ (.func F.body (envF F f s.heap.objs.size)) _ _
  have kp : ∀ b o, s.heap.get? b = some o → h₁.get? b = some o := fun b o e => hsb.extBut b o (Nat.ne_of_lt (Heap.lt_size e)) (Heap.get?_push_of_some _ e)
  obtain ⟨a, vs', rfl, ea, tt, ht, hq⟩ := hbody A outer s H vs Q E (hr.deeper _) hsp
  obtain ⟨cc, kc0, kc1, kc2, hcl, hcc⟩ := Y.cl
  have ccb : base.get? cc = some ⟨kc0, kc1, .cell (some (.ref C)), kc2⟩ := e0.mod.kin _ _ hcc
  have CA : CellsAt F.cl ["__class__"] [none] s.heap H := by
    rw [hcl]
    have look : ∀ y c, ([(("__class__" : Str), cc)] : List (Str × Addr)).lookup y = some c → y = "__class__" ∧ c = cc := fun y c e => by
      rw [List.lookup_cons] at e
      cases h : (y == ("__class__" : Str)) with
      | true => rw [h] at e; cases e; exact ⟨eq_of_beq h, rfl⟩
      | false => rw [h] at e; cases e
    refine ⟨rfl, fun y c e => ?_, fun x y c e1 e2 => ?_, fun i y e => ?_⟩
    · obtain ⟨_, rfl⟩ := look y c e
      exact ⟨(e0.bs _ _ ccb).2, _, ⟨_, (e0.bs _ _ ccb).1, rfl⟩⟩
    · rw [(look x c e1).1, (look y c e2).1]
    · cases i with
      | zero =>
        cases e
        exact ⟨cc, by rfl, fun v e => by cases e⟩
      | succ i => cases e
  have I : Inv (ncx CX P w K mg base N F f A outer s H E) [] (startF N (.ref a :: vs') [none]) H { s with heap := h₁, toks := s.toks + (ps.zip us).length } := inv_startN S hr.hd e0 hl r CA hns kp
  refine ks_codeAny_funcAt ?_
  have fin : ∀ {σ' : L2.St} {H' : Hp} {v : V} {u : Value} {s' : Shared}, Inv (ncx CX P w K mg base N F f A outer s H E) [] σ' H' s' → RelV v u → Q v H' → CE outer P w H s Q u s' :=
    fun {σ' H' v u s'} J rv q => ⟨v, H', J.os, J.bare, J.base, J.hok, rv, q⟩
  have tail : ∀ s1 : Shared, Inv (ncx CX P w K mg base N F f A outer s H E) [] (startF N (.ref a :: vs') [none]) H s1 →
      _root_.PySem.wpAt (model P w) (A.deeper (envF F f s.heap.objs.size)) (.func F.body (envF F f s.heap.objs.size)) (execs rest (envF F f s.heap.objs.size)) (fun f s' => CR CX outer P w H s Q E (.ok (.ret (match f with | .ret v => v | _ => .none))) s')
        (fun e s' => wpAny (model P w) (A.deeper (envF F f s.heap.objs.size)) (leaving (envF F f s.heap.objs.size) e) (fun _ s'' => CR CX outer P w H s Q E (.error e) s'') (fun e' s'' => CR CX outer P w H s Q E (.error e') s'') s') s1 := by
    intro s1 I1
    refine wpAt_of_wpAny (wpAny_mono (ht.run [] _ (startF N (.ref a :: vs') [none]) H _ I1 hq) (fun fl s' hs => ?_) fun e s' hs => hs)
    cases fl with
    | ret u =>
      obtain ⟨v, σ', H', J, rv, q⟩ := hs
      exact fin J rv q
    | next =>
      obtain ⟨σ', H', J, q⟩ := hs
      exact fin (v := V.non) (u := Value.none) J rfl q
    | brk =>
      obtain ⟨_, _, _, q⟩ := hs
      exact False.elim q
    | cont =>
      obtain ⟨_, _, _, q⟩ := hs
      exact False.elim q
  rw [hbd]
  rw [← hbd]
  refine (congrArg (fun z => _root_.PySem.wpAt (model P w) (A.deeper (envF F f s.heap.objs.size)) (.func F.body (envF F f s.heap.objs.size)) (execs z (envF F f s.heap.objs.size)) _ _ _) hbd).mpr ?_
  refine ks_wpAt_execs_cons (ks_wpAt_Expr_any (ks_wpAt_MethodCall ?_ (hev _)) (hint _))
  obtain ⟨ar, ps', hp, hps, hka⟩ := Y.par
  obtain ⟨ccl, cdd, cvs, ccs, file, tf, hcode, hvs, hfile⟩ := Y.code
  obtain ⟨cdD, hD⟩ := Y.cls
  obtain ⟨oD, hD1, hD2⟩ : ∃ oD, h₁.get? C = some oD ∧ oD.data = .cls cdD := by
    unfold clsIn at hD
    split at hD
    · rename_i c d cd' sl ho
      cases hD
      exact ⟨_, I.kIn _ _ ho, rfl⟩
    · cases hD
  obtain ⟨t1, ho⟩ := exo_at I.hok ea
  obtain ⟨mb, hb1, hb2⟩ := I.mod.blt
  have hboot : bootBuiltins "super" = some (.type "super") := by kernel_rfl
  refine ks_wpAt_super_base (env := envF F f s.heap.objs.size) (fd := PySem.W.fnX F.name F.qual F.params F.body F.scope F.cl .none kV doc pm an (.ref F.c) ct) Y.ks Y.kc (by decide) rfl (I.kIn _ _ lk) rfl hp rfl (I.kIn _ _ hcode) rfl hvs hfile Y.top ?_
  refine ks_loadName_global S.kind Y.ks (loadGlobal_builtin (env := envF F f s.heap.objs.size) (I.mod.glob.keeps I.bk) Y.mg (hb1.keeps I.bk) ((hb2 _ (by decide)).trans hboot) ⟨rfl, ?_⟩)
  refine wpAny_loadName_free S.kind Y.kc (show List.lookup ("__class__" : Str) F.cl = some cc by rw [hcl]; rfl) ⟨_, I.kIn _ _ hcc, rfl⟩ ?_
  have hself : (ps.zip us).reverse.lookup ar.arg = some (.ref a) := by
    have ndP : ps.Nodup := by
      have q := S.nd.sublist (List.take_sublist (ps.length + [("__class__" : Str)].length) N)
      rw [S.pre] at q
      exact (List.nodup_append.mp q).1
    cases r with
    | cons rx rr =>
      cases rx
      exact zip_look (i := 0) ndP (by rw [hps]; rfl) rfl
  refine wpAny_loadName_local S.kind hka hns hself ?_
  refine ks_wpAny_isType_cls hD1 hD2 ⟨rfl, ?_⟩
  refine ks_wpAny_call_super hD1 hD2 ho rfl (fun c e => by cases e) (looks_mroIn I.kIn Y.sub) (fun h2 e2 k2 => ?_)
  have I2 := I.kept (t' := s.toks + (ps.zip us).length) (h' := h2) k2
  have ho2 := k2 _ _ ho
  have A2 : InstAt h2 a { cls := .ref C, dict := none, data := .fields #[.ref t1, .none, .none, .none, .bool false, .none] } C none := ⟨ho2, rfl, rfl, trivial⟩
  have hI : Looks (model P w) h2 (isInstance (.ref a) (.type "ValueError")) true := A2.type.andThen (looks_subIn I2.kIn Y.ve)
  have hsu := Y.sup
  unfold ks_superIn at hsu
  rw [hD] at hsu
  refine kxs_getMethod kxs_ValueError e2 (looks_opaque I2.kIn Y.opq) (l₀ := cdD.mro) (fun A Q E s k q => wpAny_bind ((looks_clsIn I2.kIn hD) A _ E s k (wpAny_pure q))) rfl I2.kIn hsu hI (ks_ne I2.kIn A2 hD) (by decide) ?_
  have I3 := I2.kept (t' := s.toks + (ps.zip us).length + 1) (h' := h2.push (kxs_mw "ValueError.__init__" a)) (fun b o e => Heap.get?_push_of_some _ e)
  have hu : (h2.push (kxs_mw "ValueError.__init__" a)).get? h2.objs.size = some (kxs_mw "ValueError.__init__" a) := Heap.get?_push_at rfl rfl
  refine kxs_callWith (i := "ValueError.__init__") (x := a) rfl ?_
  refine evalArgs_plain (spliced_cons ?_)
  show wpAny _ _ (eval (.Constant (.str t) j pc) (envF F f s.heap.objs.size)) _ _ _
  refine Calls.Constant_str (spliced_nil ⟨hu, ?_⟩)
  obtain ⟨nm, q, NN, bs, bm, sn, sub, ab, col, dd, k0, k1, k2', k3, k5, hC, hbm⟩ := Y.ex.cls
  have hC3 := I3.kIn _ _ hC
  have ho3 : (h2.push (kxs_mw "ValueError.__init__" a)).get? a = some (PySem.W.excObj C t1 none .none) := Heap.get?_push_of_some _ ho2
  refine wpAny_call (codeAny_of_tree ?_)
  show wpAny _ (A.deeper (envF F f s.heap.objs.size)).in1 (callAny (.ref h2.objs.size) ⟨_, []⟩) _ _ _
  simp only [callAny]
  refine wpAny_bind (wpAny_load hu ?_)
  simp only [kxs_mw, show (Value.type "method-wrapper" == Value.type "method" || Value.type "method-wrapper" == Value.type "builtin_function_or_method" || Value.type "method-wrapper" == Value.type "method-wrapper") = true by decide, if_true]
  refine KFB.if_so (by decide) ?_
  refine wpAny_bind (check_bound_init PySem.F.excBase_ValueError.toExcCallFacts hC3 ho3 rfl ?_)
  refine wpAny_bind (wpAny_pure (wpAny_pure ?_))
  refine ⟨plainId_quiet PySem.F.excBase_ValueError.init.plain _, codeAny_builtin PySem.F.excBase_ValueError.initEntry ?_⟩
  refine exc_init_tree (cls := .ref C) (t0 := t1) (dv := none) (c2 := .none) (c3 := .none) (b4 := .bool false) ho3 (by rw [sizeLine_eq]; simp) (fun h4 kk e4 t4 => ?_)
  have J := I3.write (h' := h4) (t' := s.toks + (ps.zip us).length + 1 + 1) (x := a) (e := a) (o := exo a C none) (by rw [ea]; exact True.intro) (.inl rfl) kk ⟨_, e4⟩ (exo_ok e4)
  have eu : upd H a (exo a C none) = H := by
    funext b
    by_cases hb : b = a
    · rw [hb, upd_same, ea]
    · rw [upd_ne hb]
  rw [eu] at J
  exact tail _ J
end
end Sim

/-! own exceptions: what the top's end says of them -/
namespace Sim
open PySem PySem.Spec PyProof.Rows L2 PySem.W PySem.Calls NdefX
end Sim

/-! own exceptions raised: their mirrors and promises -/
namespace Sim
open PySem PySem.Spec PyProof.Rows L2 Evl NdefX
/-- what the __init__ of an own exception keeps: names the fields, in order -/
def spX (C : Addr) (names : List Str) : Sp := fun vs H Q _ => ∃ a ws, vs = .ref a :: ws ∧ ws.length = names.length ∧ H a = some (exo a C none) ∧
  ∀ dx, H dx = none → dx ≠ a → Q .non (upd (upd H dx (exd dx (names.zip ws).reverse)) a (exo a C (some dx)))
/-- may raise -/
def PX {ι α : Type} (K : PySem.W.Frag) (A : AR ι) (R : Rep α) (f : ι → Option (Xn ⊕ α)) : Sp := fun vs H Q E => ∃ G i r, Ex G H ∧ A.r G vs i ∧ f i = some r ∧
  (∀ e, r = .inl e → ∀ d H2 G2, Up G H G2 H2 → Xat G2 e d → E (.ref (He.ga K e.cls)) (some d) H2) ∧ (∀ x, r = .inr x → ∀ v H2 G2, Up G H G2 H2 → R.r G2 v x → Q v H2)
section
variable {K : PySem.W.Frag} {σ : L2.St} {G H G0 H0 : Hp} {ls : List Addr} {cs : Cs} {ta : TA} {ι : Type} {A : AR ι}
theorem x_raise {C : Addr} {names : List Str} {m : Option ι} {i : ι} {W : WX} {D : Ends} {tz : TS} (w : Wo G0 H0 ls G H cs) (ha : EA ta σ G H A m) (hm : m = some i)
    (hl : ∀ G vs, A.r G vs i → vs.length = names.length ∧ vs.length ≤ 1000)
    (k : ∀ vs H2 G2 d, Wo G0 H0 ls G2 H2 cs → A.r G2 vs i → Ex G G2 → G2 d = some (.xd (names.zip vs).reverse) → W (.ref C) (some d) σ H2) :
    tSeq (fun _ σ H => tMkO C (spX C names) [] ta σ H fun cls d H' => W cls d σ H') tz D σ H := by
  refine ha i hm H w.ex (Ex.refl _) _ fun vs H1 G1 u r => ?_
  obtain ⟨h1, h2⟩ := hl _ _ r
  refine ⟨h2, fun a na => ⟨a, vs, by rw [List.append_nil], h1, upd_same .., fun dx hdx hne => ⟨rfl, dx, (names.zip vs).reverse, upd_same .., ?_, ?_, ?_⟩⟩⟩
  · rw [upd_ne hne, upd_same]
  · rw [upd_ne hne] at hdx; exact hdx
  · have hdx' : H1 dx = none := by rw [upd_ne hne] at hdx; exact hdx
    have e : upd (del (upd (upd (upd H1 a (exo a C none)) dx (exd dx (names.zip vs).reverse)) a (exo a C (some dx))) a) dx (.xd (names.zip vs).reverse) = upd H1 dx (.xd (names.zip vs).reverse) := by
      funext b
      by_cases hb : b = dx
      · subst hb; rw [upd_same, upd_same]
      · rw [upd_ne hb, upd_ne hb]
        by_cases hba : b = a
        · subst hba; rw [del_same, na]
        · rw [del_ne hba, upd_ne hba, upd_ne hb, upd_ne hba]
    rw [e]
    have u2 := Up.lay (o := HO.xd (names.zip vs).reverse) u.gh hdx'
    have u3 := u.trans u2
    exact k vs _ _ dx ((w.up u).up u2) (A.mono u2.gg r) u3.gg (upd_same ..)
end
end Sim

/-! the __init__ of an own exception, walked -/
namespace Sim
open PySem PySem.Spec PyProof.Rows L2 Evl NdefX
/-- self.f = the i-th name, for each of these -/
def tFlds (K : PySem.W.Frag) : List (Str × Nat) → TS
  | [] => tNext
  | q :: r => tSeq (tOst K q.1 (tVar 0) (tVar q.2)) (tFlds K r)
section
variable {K : PySem.W.Frag} {σ : L2.St} {H : Hp} {a C dx : Addr} {D : Ends}
theorem flds_go (T : OexC K C) (ha : σ[0]? = some (some (.ref a))) (hne : dx ≠ a) : ∀ (r : List (Str × Nat × V)) (fs : List (Str × V)) (H : Hp), (∀ q ∈ r, PySem.W.findIn K (.ref C) q.1 = some none ∧ σ[q.2.1]? = some (some q.2.2)) →
    fs.length + r.length ≤ 900 → H a = some (exo a C (some dx)) → H dx = some (exd dx fs) → D.nx σ (upd H dx (exd dx ((r.map fun q => (q.1, q.2.2)).reverse ++ fs))) → tFlds K (r.map fun q => (q.1, q.2.1)) D σ H
  | [], fs, H, _, _, hA, hD, k => by
    have e : upd H dx (exd dx fs) = H := by
      funext b
      by_cases hb : b = dx
      · rw [hb, upd_same, hD]
      · rw [upd_ne hb]
    have k : D.nx σ (upd H dx (exd dx fs)) := k
    rw [e] at k
    exact k
  | (f, i, y) :: r, fs, H, hq, hl, hA, hD, k => by
    obtain ⟨h1, h2⟩ := hq _ (List.mem_cons_self ..)
    simp only [List.length_cons] at hl
    refine ⟨y, h2, .ref a, ha, a, C, rfl, T, h1, Or.inr ⟨dx, fs, hA, hD, by omega, ?_⟩⟩
    refine flds_go T ha hne r ((f, y) :: fs) _ (fun q h => hq q (List.mem_cons_of_mem _ h)) (by simp only [List.length_cons]; omega) ?_ (upd_same ..) ?_
    · rw [upd_ne (Ne.symm hne)]; exact hA
    · have e : upd (upd H dx (exd dx ((f, y) :: fs))) dx (exd dx ((r.map fun q => (q.1, q.2.2)).reverse ++ (f, y) :: fs)) = upd H dx (exd dx ((((f, i, y) :: r).map fun q => (q.1, q.2.2)).reverse ++ fs)) := by
        funext b
        by_cases hb : b = dx
        · rw [hb, upd_same, upd_same]; simp
        · rw [upd_ne hb, upd_ne hb, upd_ne hb]
      rw [e]
      exact k
theorem flds_all (T : OexC K C) (ha : σ[0]? = some (some (.ref a))) {q0 : Str × Nat × V} {r : List (Str × Nat × V)} (hq : ∀ q ∈ q0 :: r, PySem.W.findIn K (.ref C) q.1 = some none ∧ σ[q.2.1]? = some (some q.2.2)) (hl : r.length ≤ 800) (hA : H a = some (exo a C none))
    (k : ∀ dx, H dx = none → dx ≠ a → D.nx σ (upd (upd H dx (exd dx ((q0 :: r).map fun q => (q.1, q.2.2)).reverse)) a (exo a C (some dx)))) : tFlds K ((q0 :: r).map fun q => (q.1, q.2.1)) D σ H := by
  obtain ⟨f, i, y⟩ := q0
  obtain ⟨h1, h2⟩ := hq _ (List.mem_cons_self ..)
  refine ⟨y, h2, .ref a, ha, a, C, rfl, T, h1, Or.inl ⟨hA, fun dx hdx hne => ?_⟩⟩
  refine flds_go T ha hne r [(f, y)] _ (fun q h => hq q (List.mem_cons_of_mem _ h)) (by simp; omega) (upd_same ..) (by rw [upd_ne hne, upd_same]) ?_
  have e : upd (upd (upd H dx (exd dx [(f, y)])) a (exo a C (some dx))) dx (exd dx ((r.map fun q => (q.1, q.2.2)).reverse ++ [(f, y)])) = upd (upd H dx (exd dx (((f, i, y) :: r).map fun q => (q.1, q.2.2)).reverse)) a (exo a C (some dx)) := by
    funext b
    by_cases hb : b = dx
    · rw [hb, upd_same, upd_ne hne, upd_same]; simp
    · rw [upd_ne hb]
      by_cases hba : b = a
      · rw [hba, upd_same, upd_same]
      · rw [upd_ne hba, upd_ne hba, upd_ne hb, upd_ne hb]
  rw [e]
  exact k dx hdx hne
end
section
variable {CX : CXT} {P : Program} {w : World} {K : PySem.W.Frag} {mg : Str → Option Value} {base : Heap} {N ps : List Str} {F : NF} {C f : Addr} {fd : FuncData} {k : Nat} {t : Str} {rest : List Stmt} {p0 p1 p2 p3 p4 pc : Pos} {j : Nat} {pl : Sem Bool} {names : List Str} {fi : List (Str × Nat)}
theorem xinit (S : NScope N ps ["__class__"] F.scope) (Y : SupC P K mg C f fd F ps) (hbd : F.body = .Expr (.Call (.Attribute (.Call (.Name "super" p0) [] [] p1) "__init__" p2) [.Constant (.str t) j pc] [] p3) p4 :: rest)
    (hev : ∀ L : Addr, eval (.Call (.Attribute (.Call (.Name "super" p0) [] [] p1) "__init__" p2) [.Constant (.str t) j pc] [] p3) (envF F f L) = (do
      let ov ← attributeBase (.Call (.Name "super" p0) [] [] p1) "__init__" (envF F f L) (eval (.Call (.Name "super" p0) [] [] p1) (envF F f L))
      standAt p2.atName
      let (g, first) ← holding [ov] (getMethod ov "__init__" pl)
      callWith p3 g first (backTo p3 (starEach [.Constant (.str t) j pc] (envF F f L))) []))
    (hint : ∀ L : Addr, interactive (envF F f L) = false) (hno : ∀ f ∈ names, PySem.W.findIn K (.ref C) f = some none) (hps : ps.length = names.length + 1)
    (hr : ∀ (a : Addr) (ws : List V), ws.length = names.length → ∃ (q0 : Str × Nat × V) (r : List (Str × Nat × V)), r.length ≤ 800 ∧ ((q0 :: r).map fun q => (q.1, q.2.1)) = fi ∧ ((q0 :: r).map fun q => (q.1, q.2.2)) = names.zip ws ∧ ∀ q ∈ q0 :: r, q.1 ∈ names ∧ (startF N (.ref a :: ws) [none])[q.2.1]? = some (some q.2.2))
    (hrest : ∀ (A : Around) (outer : List Env) (s : Shared) (H : Hp) (E : XK), PSs (ncx CX P w K mg base N F f A outer s H E) rest (tFlds K fi)) :
    FnOk P w K mg base CX (k + 1) f fd ps (spX C names) := by
  refine fn_exc S Y hbd hev hint (fun vs H Q E h => ?_) (fun A outer s H vs Q E _ h => ?_)
  · obtain ⟨a, ws, rfl, h, _⟩ := h
    rw [List.length_cons, h, hps]
  · obtain ⟨a, ws, rfl, hl, hA, kk⟩ := h
    refine ⟨a, ws, rfl, hA, _, hrest A outer s H E, ?_⟩
    obtain ⟨q0, r, h1, h2, h3, h4⟩ := hr a ws hl
    rw [← h2]
    refine flds_all Y.ex (a := a) (by rfl) (fun q hq => ⟨hno _ (h4 q hq).1, (h4 q hq).2⟩) h1 hA (fun dx hdx hne => ?_)
    rw [h3]
    exact kk dx hdx hne
end
end Sim

/-! calls that may raise, at the caller's slots; try -/
namespace L2
open PySem PySem.Spec PyProof.Rows
section
variable {X : Cx} {CX : CXT} {k : Nat} {f C : Addr} {fd : FuncData} {ps : List Str} {sp : Sp} {E : St → XK} {x m : Str} {p pos apos : Pos} {e o : Expr} {es : List Expr} {ta : TE} {t : TA}
/-- o.m(e, ..), what is raised wished for at the slots -/
def tMethT (C : Addr) (m : Str) (sp : Sp) (E : St → XK) (to : TE) (t : TA) : TE := fun σ H Q => to σ H fun x H1 => ∃ a dx fs, x = .ref a ∧ H1 a = some (.ins C dx fs) ∧ fs.lookup m = none ∧ t σ H1 fun vs H2 => sp (.ref a :: vs) H2 Q (E σ)
theorem pe_methT {pl : Sem Bool} (he : PE X o ta) (c : Cls X.K C) (hm : Meth X.K C m f) (F : FnOk X.prog X.w X.K X.mg X.base CX k f fd ps sp) (hr : Room k X.A) (hb : Binds X.K fd ps []) (hx : ∀ σ, PassesAt CX X σ (E σ)) (ha : PA X (e :: es) t)
    (hst : starEach (e :: es) X.env = (false, eval e X.env) :: starEach es X.env := by rfl) (hpl : (backTo pos (starEach es X.env)).any (·.1) = false := by rfl)
    (ht : eval (.Call (.Attribute o m apos) (e :: es) [] pos) X.env = (do
      let ov ← eval o X.env
      standAt apos.atName
      let (f, first) ← holding [ov] (getMethod ov m pl)
      callWith pos f first (backTo pos (starEach (e :: es) X.env)) (backToKw pos (keywordEach [] X.env))) := by rfl) :
    PE X (.Call (.Attribute o m apos) (e :: es) [] pos) (tMethT C m sp E ta t) := by
  refine ⟨fun pins s σ H Q I h => ?_⟩
  refine PySem.W.methodCall_KW (pl := pl) (thn (he.run pins s σ H _ I h) fun u s1 ⟨x, H1, I1, rx, a, dx, fs, ex, ea, l, q⟩ => ?_) ht
  subst ex
  obtain rfl : u = Value.ref a := rx
  refine getmeth_ok I1 ea c hm l ?_
  refine PySem.W.callWith_K (first := [.ref a]) (h₀ := X.base) I.ok.mod.kin hm.kp (thn (ha.run pos pins s1 σ H1 _ I1 q) fun us s2 ⟨vs, H2, I2, r, q2⟩ => ⟨I2.kIn, ?_⟩) hst hpl
  exact run_fnS (us := .ref a :: us) (vs := .ref a :: vs) F hr hb (hx σ) I2 (.cons rfl r) q2
end
end L2
namespace Sim
open PySem PySem.Spec PyProof.Rows L2 Evl
section
variable {K : PySem.W.Frag} {σ : L2.St} {G H W G0 H0 : Hp} {ls : List Addr} {cs : Cs} {ta : TA} {to te : TE} {ι α β γ : Type} {A : AR ι} {R : Rep α} {S : Rep β} {T : Rep γ} {t u : TS} {D : Ends}
/-- a reading that may raise -/
def EX (K : PySem.W.Frag) (te : TE) (σ : L2.St) (G W : Hp) (R : Rep α) (m : Option (Xn ⊕ α)) (Wx : XK) : Prop :=
  ∀ r, m = some r → ∀ H, Ex G H → Ex W H → ∀ Q : VK, (∀ e, r = .inl e → ∀ d H2 G2, Up G H G2 H2 → Xat G2 e d → Wx (.ref (He.ga K e.cls)) (some d) H2) → (∀ x, r = .inr x → ∀ v H2 G2, Up G H G2 H2 → R.r G2 v x → Q v H2) → te σ H Q
theorem ex_meth {C : Addr} {ns : List Str} {fl : α → List Pd} {m : Option α} {mi : Option ι} {me : Str} {f : α × ι → Option (Xn ⊕ γ)} {ta : TA} {Wx : L2.St → XK} (h : E to σ G W (rObj C ns fl) m) (ha : EA ta σ G W A mi) (hi : ns.contains me = false) :
    EX K (tMethT C me (PX K (aC (rObj C ns fl) A) T f) Wx to ta) σ G W T (m >>= fun o => mi >>= fun i => f (o, i)) (Wx σ) := fun z hz H e e' Q qx q => by
  obtain ⟨x, hx, hz⟩ := bindS hz
  obtain ⟨y, hy, hz⟩ := bindS hz
  refine h x hx H e e' _ fun v H1 G1 u r => ?_
  obtain ⟨a, dx, fs, rfl, h2, h3⟩ := r
  refine ⟨a, dx, fs, rfl, u.gh a _ h2, look_no h3.1 hi, ?_⟩
  refine (ha.mono u.gg (e'.trans u.hh)) y hy H1 u.gh (Ex.refl _) _ fun vs H3 G3 u3 r3 => ?_
  exact ⟨G3, (x, y), z, u3.gh, ⟨.ref a, vs, rfl, ⟨a, dx, fs, rfl, u3.gg a _ h2, h3.mono u3.gg⟩, r3⟩, hz, fun x hx d H4 G4 u4 r4 => qx x hx d H4 G4 ((u.trans u3).trans u4) r4, fun x hx v H4 G4 u4 r4 => q x hx v H4 G4 ((u.trans u3).trans u4) r4⟩
/-- f(..), alone -/
theorem x_callX {tz : TS} {m : Option (Xn ⊕ α)} {r : Xn ⊕ α} {Wx : XK} (w : Wo G0 H0 ls G H cs) (h : EX K te σ G H R m Wx) (hm : m = some r) (kx : ∀ e, r = .inl e → ∀ d H2 G2, Wo G0 H0 ls G2 H2 cs → Ex G G2 → Xat G2 e d → Wx (.ref (He.ga K e.cls)) (some d) H2)
    (k : ∀ x, r = .inr x → ∀ H2 G2, Wo G0 H0 ls G2 H2 cs → Ex G G2 → tz D σ H2) : tSeq (tDrop te) tz D σ H :=
  h r hm H w.ex (Ex.refl _) (fun _ H1 => tz D σ H1) (fun e he d H2 G2 u x => kx e he d H2 G2 (w.up u) u.gg x) fun x hx v H2 G2 u _ => k x hx H2 G2 (w.up u) u.gg
/-- x = f(..) -/
theorem x_setX {tz : TS} {i : Nat} {m : Option (Xn ⊕ α)} {r : Xn ⊕ α} {Wx : XK} (w : Wo G0 H0 ls G H cs) (h : EX K te σ G H R m Wx) (hm : m = some r) (kx : ∀ e, r = .inl e → ∀ d H2 G2, Wo G0 H0 ls G2 H2 cs → Ex G G2 → Xat G2 e d → Wx (.ref (He.ga K e.cls)) (some d) H2)
    (k : ∀ x, r = .inr x → ∀ v H2 G2, Wo G0 H0 ls G2 H2 cs → Ex G G2 → R.r G2 v x → tz D (σ.set i (some v)) H2) : tSeq (tAsg te (gName i)) tz D σ H :=
  h r hm H w.ex (Ex.refl _) (fun x H1 => gName i x σ H1 (tz D)) (fun e he d H2 G2 u x => kx e he d H2 G2 (w.up u) u.gg x) fun x hx v H2 G2 u y => k x hx v H2 G2 (w.up u) u.gg y
end
end Sim

/-! try with several clauses, each with or without a name -/
namespace L2
open PySem PySem.Spec PyProof.Rows
section
variable {X : Cx} {pins : List (Addr × Obj)} {σ : L2.St} {H : Hp} {cls : Value} {d : Option Addr} {a : Addr} {B : Heap} {sI s : Shared}
end
section
variable {X : Cx} {body : List Stmt} {h₀ : ExceptHandler} {hds : List ExceptHandler} {l : List Cla} {pos : Pos} {tb : WX → TS} {Wout : WX}
theorem ps_tryA (hN : X.N.Nodup) (hs : X.stack = X.env :: X.outer) (hf : X.env.frame = some X.env.locals) (tk : Takes X Wout)
    (hb : ∀ (W : WX) (pn : List (Addr × Obj)) (xe : Value → Shared → Prop), Takes (X.tr pn xe) W → PassesOwn (model X.prog X.w) X.A X.env xe → PSs (X.tr pn xe) body (tb W))
    (hh : HdsA X (h₀ :: hds) l) : PS X (.Try body (h₀ :: hds) [] [] pos) (fun D σ H => tb (wManyA X.K Wout D l) D σ H) := by
  refine ⟨fun pins s σ H D I h => wpAny_Try_except ?_⟩
  have ok := I.ok
  refine wpAny_mono ((hb _ (X.pn ++ pins) (fun e s₁ => wpAny (model X.prog X.w) X.A (noteFrame e X.env) (fun _ s₂ => wpAny (model X.prog X.w) X.A (setFlight e none) (fun _ s₃ =>
    wpAny (model X.prog X.w) X.A (handleBy e X.env (h₀ :: hds)) (SP X pins D) X.xe s₃) X.xe s₂) X.xe s₁) (fun u s' xx => ?_) PassesOwn.looking).run [] s σ H D (I.toTry _) h) (fun f s1 hsp => ?_) (fun e s1 he => he)
  · obtain ⟨a, B, sI, pins', σ', H', cls, d, rfl, J, nb, up, sky, na, os, ag, w⟩ := xx
    have sky' : Sky B (X.env :: X.outer) a (Zc cls d) X.env.locals s'.heap := by rw [← hs]; exact sky
    refine Sky.land Zc.steady (by rw [ok.frames, hs]) hf sky' fun h3 fl3 up3 => ?_
    exact Aloft.go (s := { s' with heap := h3 }) ⟨J.ofTry ok, nb, up.trans up3, by rw [hs]; exact fl3, na, os, ag⟩ ok hN hs hf tk hh w
  · cases f with
    | ret u => obtain ⟨v, σ', H', J, r, q⟩ := hsp; exact ⟨v, σ', H', J.ofTry ok, r, q⟩
    | next => obtain ⟨σ', H', J, q⟩ := hsp; exact wpAny_execs_nil ⟨σ', H', J.ofTry ok, q⟩
    | brk => obtain ⟨σ', H', J, q⟩ := hsp; exact ⟨σ', H', J.ofTry ok, q⟩
    | cont => obtain ⟨σ', H', J, q⟩ := hsp; exact ⟨σ', H', J.ofTry ok, q⟩
end
end L2

/-! the hook with own exceptions -/
namespace Sim
open PySem PySem.Spec PyProof.Rows L2 Evl
abbrev prG (K : PySem.W.Frag) (C f : Str) : Addr := wrG K "property" C f
/-- a static method m of the class C -/
structure StatOf (K : PySem.W.Frag) (C : Addr) (m : Str) (p g : Addr) : Prop where
  ga : PySem.W.specialIn K (.ref C) "__getattribute__" = some (some (.builtin "type.__getattribute__"))
  ty : PySem.W.typeIn K (.ref C) = some (.type "type")
  rd : PySem.W.readsIn K C (.type "type") = true
  at_ : PySem.W.findCls K (.ref C) (.type "type") m = some (.get (.builtin "staticmethod.__get__") (.ref p) .none (.ref C))
  rc : ∃ rest, PySem.W.recIn K p "staticmethod" = some (.ref g :: rest)
  hd : PySem.W.handedIn (.ref g) = true
theorem statB_ok {C f : Str} {K : PySem.W.Frag} (h : statB C f K = true) : StatOf K (He.ga K C) f (prP K C f) (wrG K "staticmethod" C f) := by
  obtain ⟨h1, h⟩ := He.ba h
  obtain ⟨h2, h⟩ := He.ba h
  obtain ⟨h3, h⟩ := He.ba h
  obtain ⟨h4, h5⟩ := He.ba h
  have h4' : PySem.W.findCls K (.ref (He.ga K C)) (.type "type") f = some (.get (.builtin "staticmethod.__get__") (.ref (prP K C f)) .none (.ref (He.ga K C))) := by
    split at h4
    · rename_i n p D e
      simp only [Bool.and_eq_true, beq_iff_eq] at h4
      obtain ⟨rfl, rfl, rfl⟩ := h4
      exact e
    · cases h4
  unfold wrG
  cases e : PySem.W.recIn K (prP K C f) "staticmethod" with
  | none => rw [e] at h5; cases h5
  | some l =>
    rw [e] at h5
    cases l with
    | nil => cases h5
    | cons v r =>
      cases v with
      | ref g => exact ⟨of_decide_eq_true h1, of_decide_eq_true h2, h3, h4', ⟨r, e⟩, h5⟩
      | _ => cases h5
theorem propB_ok {C f : Str} {K : PySem.W.Frag} (h : propB C f K = true) : PropOf K (He.ga K C) f (prP K C f) (prG K C f) := by
  obtain ⟨h1, h⟩ := He.ba h
  obtain ⟨h2, h⟩ := He.ba h
  obtain ⟨h3, h4⟩ := He.ba h
  refine ⟨of_decide_eq_true h1, of_decide_eq_true h2, of_decide_eq_true h3, ?_⟩
  unfold prG wrG
  cases e : PySem.W.recIn K (prP K C f) "property" with
  | none => rw [e] at h4; cases h4
  | some l =>
    rw [e] at h4
    cases l with
    | nil => cases h4
    | cons v r =>
      cases v with
      | ref g => exact ⟨r, rfl⟩
      | _ => cases h4
theorem GeD.funD {K : PySem.W.Frag} {d : GeD} (e : fnG K d.kind d.cls d.prop = d.val) (c : d.ok K = true) : ∃ fd, FunD K d.prop d.qual d.params d.body d.scope [] [] (wrG K d.kind d.cls d.prop) fd := by
  obtain ⟨_, c⟩ := He.ba c
  obtain ⟨kp, c2⟩ := He.ba c
  unfold fnG at e
  cases q : K.lookup (wrG K d.kind d.cls d.prop) with
  | none => rw [q] at c2; cases c2
  | some o =>
    obtain ⟨oc, od, dt, osl⟩ := o
    rw [q] at c2 e
    cases dt with
    | func fd =>
      obtain ⟨n1, n2, n3, n4, n5, n6, n7, n8, n9, n10, n11, n12, n13, n14, n15⟩ := fd
      have e2 : (some (n1, n2, n3, n4, n5, n6, n7, n15) : He.FnW) = (some (d.prop, d.qual, d.params, .stmts d.body, d.scope, mainGlobals, [], builtinsNs) : He.FnW) := e
      simp only [Option.some.injEq, Prod.mk.injEq] at e2
      obtain ⟨h1, h2, h3, h4, h5, h6, h7, h8⟩ := e2
      subst h1 h2 h3 h4 h5 h6 h7 h8
      obtain ⟨k1, k2⟩ := He.ba (show (PySem.W.codeIn K n13 d.qual && (He.dflB K n8 [] && He.kwdB K n9 [])) = true from c2)
      obtain ⟨k3, k4⟩ := He.ba k2
      exact ⟨_, ⟨oc, od, n8, n9, n10, n11, n12, n13, n14, osl, rfl, q, k1, He.dflB_ok k3, He.kwdB_ok k4⟩, kp⟩
    | _ => cases c2
section
variable {fa : List He.Fa} {fn : List He.DefD} {es : List (PySem.W.Frag → Bool)} {xs : List XcD} {gs : List GeD} {file : Str} {K : PySem.W.Frag} {mg : Str → Option Value}
theorem TxX.mk' {h : Heap} (KX : K.In h) (G : h.Ns mainGlobals mg) (c : SaysX fa fn es xs gs file K) : TxX fa fn es xs gs file K mg := by
  obtain ⟨h1, h2⟩ := He.ba c.x
  obtain ⟨h2, h3⟩ := He.ba h2
  exact ⟨⟨⟨⟨h, KX, G⟩, c.d⟩, h1⟩, h2, c.y, h3, c.g⟩
theorem TxX.xc (T : TxX fa fn es xs gs file K mg) (i : Nat) {d : XcD} (h : xs[i]? = some d) : fnY K d.cls = d.val ∧ d.ok K file = true := by
  have e2 : (xs.map fun d => fnY K d.cls)[i]? = (xs.map XcD.val)[i]? := by rw [T.xv]
  rw [List.getElem?_map, List.getElem?_map, h] at e2
  exact ⟨Option.some.inj e2, List.all_eq_true.mp T.xo d (List.mem_of_getElem? h)⟩
theorem TxX.ge (T : TxX fa fn es xs gs file K mg) (i : Nat) {d : GeD} (h : gs[i]? = some d) : (d.kind = "property" → PropOf K (He.ga K d.cls) d.prop (prP K d.cls d.prop) (prG K d.cls d.prop)) ∧ (d.kind = "staticmethod" → StatOf K (He.ga K d.cls) d.prop (prP K d.cls d.prop) (wrG K "staticmethod" d.cls d.prop) ∧ PySem.W.keepIn K (.ref (wrG K d.kind d.cls d.prop)) = true) ∧ ∃ fd, FunD K d.prop d.qual d.params d.body d.scope [] [] (wrG K d.kind d.cls d.prop) fd := by
  have e2 : (gs.map fun d => fnG K d.kind d.cls d.prop)[i]? = (gs.map GeD.val)[i]? := by rw [T.gv]
  rw [List.getElem?_map, List.getElem?_map, h] at e2
  have o := List.all_eq_true.mp T.go d (List.mem_of_getElem? h)
  have o1 := (He.ba o).1
  refine ⟨fun e => ?_, fun e => ⟨?_, (He.ba (He.ba o).2).1⟩, GeD.funD (Option.some.inj e2) o⟩
  · rw [e] at o1; exact propB_ok o1
  · rw [e] at o1
    exact statB_ok o1
end
theorem noB_ok {C f : Str} {K : PySem.W.Frag} (h : noB C f K = true) : PySem.W.findIn K (.ref (He.ga K C)) f = some none := of_decide_eq_true h
theorem exmB_ok {C D : Str} {b : Bool} {K : PySem.W.Frag} (h : exmB C D b K = true) : PySem.W.exmOne K (.ref (He.ga K C)) (.ref (He.ga K D)) = some b := of_decide_eq_true h
end Sim

/-! isinstance of a caught exception that has fields; properties -/
namespace PySem.W
open PySem PySem.Calls PyProof.Rows PySem.Spec
section
variable {prog : Program} {w : World} {A : Around} {E : Value → Shared → Prop} {s : Shared} {K : Frag} {x D : Addr} {ox : Obj} {od : Obj}
end
end PySem.W
namespace L2
open PySem PySem.Spec PyProof.Rows
end L2
namespace Sim
open PySem PySem.Spec PyProof.Rows L2 Evl
section
variable {K : PySem.W.Frag} {σ : L2.St} {G H W : Hp} {to : TE} {ta : TA} {α γ : Type} {T : Rep γ}
/-- o.f, a property -/
theorem e_prop {C : Addr} {ns : List Str} {fl : α → List Pd} {m : Option α} {f : α × Unit → Option γ} {X : XK} (h : E to σ G W (rObj C ns fl) m) : E (tProp C (PF (aC (rObj C ns fl) aN) T f) [] X to) σ G W T (m >>= fun o => f (o, ())) := fun z hz H e e' Q q => by
  obtain ⟨x, hx, hz⟩ := bindS hz
  refine h x hx H e e' _ fun v H1 G1 u r => ?_
  obtain ⟨a, dx, fs, rfl, h2, h3⟩ := r
  refine ⟨a, dx, fs, rfl, u.gh a _ h2, ?_⟩
  exact ⟨G1, (x, ()), z, u.gh, ⟨.ref a, [], rfl, ⟨a, dx, fs, rfl, h2, h3⟩, rfl⟩, hz, fun v H4 G4 u4 r4 => q v H4 G4 (u.trans u4) r4⟩
end
end Sim

namespace Sim
open PySem PySem.Spec PyProof.Rows L2 Evl
theorem look_app {α : Type} {f : Str} {x : α} : ∀ {l r : List (Str × α)}, (∀ y, (f, y) ∉ l) → (l ++ [(f, x)]).lookup f = some x
  | [], _, _ => by simp [List.lookup]
  | (g, y) :: l, r, h => by
    have hg : (f == g) = false := by
      rw [beq_eq_false_iff_ne]
      rintro rfl
      exact h y (List.mem_cons_self ..)
    rw [List.cons_append, List.lookup_cons, hg]
    exact look_app (r := r) fun z hz => h z (List.mem_cons_of_mem _ hz)
theorem look_app' {α : Type} {f g : Str} {x : α} (hne : f ≠ g) : ∀ {l : List (Str × α)} {y : α}, l.lookup f = some y → (l ++ [(g, x)]).lookup f = some y
  | [], _, h => by cases h
  | (k, z) :: l, y, h => by
    rw [List.cons_append, List.lookup_cons]
    rw [List.lookup_cons] at h
    cases e : (f == k) with
    | true => rw [e] at h; exact h
    | false => rw [e] at h; exact look_app' hne h
/-- the fields of a raised exception, from what its arguments tell -/
theorem look_rev {G : Hp} : ∀ {names : List Str} {vs : List V} {xs : List Xv} {f : Str} {x : Xv}, names.Nodup → Paired (rX.r G) vs xs → (names.zip xs).lookup f = some x → ∃ v, (names.zip vs).reverse.lookup f = some v ∧ rX.r G v x
  | [], vs, xs, f, x, _, _, h => by cases h
  | n :: names, [], xs, f, x, _, r, h => by cases r; cases h
  | n :: names, v :: vs, [], f, x, _, r, h => by cases r
  | n :: names, v :: vs, y :: xs, f, x, nd, r, h => by
    cases r with
    | cons r1 r2 =>
    obtain ⟨hn, nd⟩ := List.nodup_cons.mp nd
    rw [List.zip_cons_cons, List.lookup_cons] at h
    rw [List.zip_cons_cons, List.reverse_cons]
    cases e : (f == n) with
    | true =>
      rw [e] at h
      cases h
      have : f = n := eq_of_beq e
      subst this
      exact ⟨v, look_app (r := []) (fun z hz => hn (List.of_mem_zip (List.mem_reverse.mp hz)).1), r1⟩
    | false =>
      rw [e] at h
      obtain ⟨u, h1, h2⟩ := look_rev nd r2 h
      exact ⟨u, look_app' (beq_eq_false_iff_ne.mp e) h1, h2⟩
theorem Xat_mk {G : Hp} {d : Addr} {names : List Str} {vs : List V} {xs : List Xv} {cls : Str} (nd : names.Nodup) (hd : G d = some (.xd (names.zip vs).reverse)) (r : Paired (rX.r G) vs xs) : Xat G ⟨cls, names.zip xs⟩ d :=
  ⟨_, hd, fun f x h => look_rev nd r h⟩
end Sim

/-! a class made whose __init__ may raise; isinstance of whatever was caught; tables of exception classes -/
namespace L2
open PySem PySem.Spec PyProof.Rows
section
variable {X : Cx} {CX : CXT} {k : Nat} {f C : Addr} {fd : FuncData} {ps : List Str} {sp : Sp} {E : St → XK} {x m : Str} {p pos apos : Pos} {e o : Expr} {es : List Expr} {ta : TE} {t : TA}
/-- nothing is raised here -/
theorem takes_no : Takes X (fun _ _ _ _ => False) := fun _ _ ⟨_, _, _, _, _, _, _, _, _, _, _, _, _, _, _, _, w⟩ => w.elim
end
/-- e.f, e the caught exception, whatever its class -/
def tXz (K : PySem.W.Frag) (a : Addr) (cls : Value) (d : Option Addr) (f : Str) (te : TE) : TE := fun σ H Q => te σ H fun x H1 => x = .ref a ∧ ∃ (C dd : Addr) (fs : List (Str × V)) (v : V), cls = .ref C ∧ XfC K C ∧ PySem.W.findIn K (.ref C) f = some none ∧ d = some dd ∧ H1 dd = some (.xd fs) ∧ fs.lookup f = some v ∧ Q v H1
theorem pe_xz {X : Cx} {a : Addr} {oe : Obj} {cls : Value} {d : Option Addr} {pn : List (Addr × Obj)} {e : Expr} {te : TE} {pos : Pos} {n : Str}
    (hz : Zc cls d oe) (hf : ∃ vs, oe.data = .fields vs) (he : PE (X.suite a ((a, oe) :: pn)) e te) (hb : attributeBase e n X.env (eval e X.env) = eval e X.env := by rfl) :
    PE (X.suite a ((a, oe) :: pn)) (.Attribute e n pos) (tXz X.K a cls d n te) := by
  refine ⟨fun pins s σ H Q I h => ?_⟩
  refine attr_of hb (thn (he.run pins s σ H _ I h) fun u s1 hh => ?_)
  obtain ⟨x, H1, I1, rx, ex, C, dd, fs, v, ec, T, hno, ed, ea, l, q⟩ := hh
  subst ex
  obtain rfl : u = Value.ref a := rx
  subst ec
  subst ed
  obtain ⟨ha, _⟩ := I1.pin (a, oe) (List.mem_append_left _ List.mem_cons_self)
  obtain ⟨vs, hd⟩ := hf
  have hx : ObjOk X.prog X.w H1 s1.heap dd (.xd fs) := I1.hok dd _ ea
  obtain ⟨mA, hns, hr⟩ := hx
  obtain ⟨od, ho, hl⟩ := lookIn_ns hns
  obtain ⟨u, hu, ru⟩ := RelO.some_of (v := v) (o := mA n) (by rw [← l]; exact hr n)
  have J : PySem.W.InstAt s1.heap a oe C (some od) := ⟨ha, hz.1, by unfold PySem.W.notCls; rw [hd] <;> rfl, by rw [hz.2]; exact ho⟩
  exact HandSPX.exc_get I1.kIn J T.ga T.gg T.exC (PySem.W.findObj_own T.hdC hno rfl (by rw [hl, hu])) (handed_of ru) ⟨v, H1, I1.tok _, ru, q⟩
end L2
namespace Sim
open PySem PySem.Spec PyProof.Rows L2 Evl
/-! tables: what the top's end says of the exception classes cs -/
theorem excCB_ok {K : PySem.W.Frag} {D : Addr} (h : excCB K D = true) : ExcC K D := by
  obtain ⟨h1, h⟩ := He.ba h
  obtain ⟨h2, h⟩ := He.ba h
  obtain ⟨h3, h⟩ := He.ba h
  obtain ⟨h4, h⟩ := He.ba h
  obtain ⟨h5, h⟩ := He.ba h
  obtain ⟨h6, h⟩ := He.ba h
  obtain ⟨h7, h8⟩ := He.ba h
  exact ⟨of_decide_eq_true h1, of_decide_eq_true h2, of_decide_eq_true h3, h4, of_decide_eq_true h5, of_decide_eq_true h6, of_decide_eq_true h7, of_decide_eq_true h8⟩
section
variable {K : PySem.W.Frag} {cs fs : List Str} {C D f : Str} {b : Bool}
theorem xs_ok (h : xsB cs K = true) (hC : cs.contains C = true) : ExcC K (He.ga K C) ∧ XfC K (He.ga K C) := by
  have := List.all_eq_true.mp h C (List.contains_iff_mem.mp hC)
  obtain ⟨h1, h2⟩ := He.ba this
  exact ⟨excCB_ok h1, xfB_ok h2⟩
theorem xn_ok (h : xnB cs fs K = true) (hC : cs.contains C = true) (hf : fs.contains f = true) : PySem.W.findIn K (.ref (He.ga K C)) f = some none :=
  noB_ok (List.all_eq_true.mp (List.all_eq_true.mp h C (List.contains_iff_mem.mp hC)) f (List.contains_iff_mem.mp hf))
theorem xa_ok (h : xaB cs D b K = true) (hC : cs.contains C = true) : PySem.W.exmOne K (.ref (He.ga K C)) (.ref (He.ga K D)) = some b := exmB_ok (List.all_eq_true.mp h C (List.contains_iff_mem.mp hC))
end
theorem sumL {α β γ : Type} {f : α → Option γ} {g : β → Option γ} {e : α} {r : γ} (h : Sum.elim f g (Sum.inl e) = some r) : f e = some r := h
theorem sumR {α β γ : Type} {f : α → Option γ} {g : β → Option γ} {e : β} {r : γ} (h : Sum.elim f g (Sum.inr e) = some r) : g e = some r := h
theorem bifO {α : Type} {c : Bool} {a b : Option α} {r : α} (h : (bif c then a else b) = some r) : (c = true ∧ a = some r) ∨ (c = false ∧ b = some r) := by
  cases c with
  | true => exact Or.inl ⟨rfl, h⟩
  | false => exact Or.inr ⟨rfl, h⟩
section
variable {K : PySem.W.Frag} {σ : L2.St} {G H W G0 H0 G2 H2 : Hp} {ls : List Addr} {cs : Cs} {ta tb : TA} {to te tu : TE} {ι α β γ : Type} {A : AR ι} {R : Rep α} {S : Rep β} {T : Rep γ} {D : Ends} {l C : Addr} {ns : List Str} {fl : α → List Pd}
theorem Xat.upE {ls : List Addr} {e : Xn} {d : Addr} (h : Xat G e d) (x : Ex G G2) : Xat G2 e d := h.mono x
def xI (e : Xn) (f : Str) : Option Int := e.fs.lookup f >>= fun x => match x with | .int y => some y | _ => none
def xS (e : Xn) (f : Str) : Option Str := e.fs.lookup f >>= fun x => match x with | .str y => some y | _ => none
/-- e.f of the caught exception -/
theorem e_xz {a d : Addr} {e : Xn} {f : Str} {i : Nat} (hs : σ[i]? = some (some (.ref a))) (hx : Xat G e d) (hC : XfC K (He.ga K e.cls)) (hno : PySem.W.findIn K (.ref (He.ga K e.cls)) f = some none) : E (tXz K a (.ref (He.ga K e.cls)) (some d) f (tVar i)) σ G W rI (xI e f) := fun z hz H ee e' Q q => by
  obtain ⟨x, hx1, hz⟩ := bindS hz
  cases x with
  | str _ => cases hz
  | int y =>
    cases hz
    obtain ⟨fs, h1, h2⟩ := hx
    obtain ⟨v, h3, h4⟩ := h2 f _ hx1
    exact ⟨.ref a, hs, rfl, _, d, fs, v, rfl, hC, hno, rfl, ee d _ h1, h3, q v H G (Up.refl ee) h4⟩
theorem e_xzS {a d : Addr} {e : Xn} {f : Str} {i : Nat} (hs : σ[i]? = some (some (.ref a))) (hx : Xat G e d) (hC : XfC K (He.ga K e.cls)) (hno : PySem.W.findIn K (.ref (He.ga K e.cls)) f = some none) : E (tXz K a (.ref (He.ga K e.cls)) (some d) f (tVar i)) σ G W rS (xS e f) := fun z hz H ee e' Q q => by
  obtain ⟨x, hx1, hz⟩ := bindS hz
  cases x with
  | int _ => cases hz
  | str y =>
    cases hz
    obtain ⟨fs, h1, h2⟩ := hx
    obtain ⟨v, h3, h4⟩ := h2 f _ hx1
    exact ⟨.ref a, hs, rfl, _, d, fs, v, rfl, hC, hno, rfl, ee d _ h1, h3, q v H G (Up.refl ee) h4⟩
end
end Sim

/-! properties; == of further data; list + list; index; all, any -/
namespace Sim
open PySem PySem.Spec PyProof.Rows L2 Evl
def Fp (P : Program) (w : World) (K : PySem.W.Frag) (mg : Str → Option Value) (base : Heap) (CX : CXT) (k : Nat) (c m : Str) (ps : List Str) (sp : Sp) : Prop :=
  ∃ fd, FnOk P w K mg base CX k (prG K c m) fd ps sp ∧ Binds K fd ps []
theorem fp_mk {K : PySem.W.Frag} {mg : Str → Option Value} {P : Program} {w : World} {base : Heap} {CX : CXT} {k : Nat} {c m x qual : Str} {ps : List Str} {sp : Sp} {fd : FuncData} {params : Arguments} {body : List Stmt} {scope : Scope} (F : FunD K x qual params body scope [] [] (prG K c m) fd)
    (hb : ∀ (kV doc pm : Value) (an : Option Addr) (cdv ct : Value) (us : List Value), us.length = ps.length → bindArgs (PySem.W.fnOf x qual params body scope .none kV doc pm an cdv ct) ⟨us, []⟩ = pure (ps.zip us))
    (h : FnOk P w K mg base CX k (prG K c m) fd ps sp) : Fp P w K mg base CX k c m ps sp := ⟨fd, h, F.bindsN hb⟩
section
variable {K : PySem.W.Frag} {σ : L2.St} {G H W G' W' : Hp} {ta : TA} {te tu : TE} {ι α β γ : Type} {A : AR ι} {R : Rep α} {S : Rep β} {T : Rep γ}
theorem dtS : Dt rS PyData.str 0 := ⟨fun h => by rw [show _ = V.str _ from h]; exact .str _, fun _ => rfl, fun _ => Nat.le_refl _, fun x y => by simp [PyData.eqv]⟩
/-- never equal to None -/
class NoN (d : α → PyData) : Prop where
  ne : ∀ x, PyData.eqv .none (d x) = false ∧ PyData.eqv (d x) .none = false
instance : NoN PyData.int := ⟨fun x => ⟨by simp [PyData.eqv], by simp [PyData.eqv]⟩⟩
instance : NoN PyData.bool := ⟨fun x => ⟨by simp [PyData.eqv], by simp [PyData.eqv]⟩⟩
instance : NoN PyData.str := ⟨fun x => ⟨by simp [PyData.eqv], by simp [PyData.eqv]⟩⟩
instance {d : α → PyData} : NoN (fun xs : List α => PyData.list (xs.map d)) := ⟨fun x => ⟨by simp [PyData.eqv], by simp [PyData.eqv]⟩⟩
instance {d : α → PyData} : NoN (fun xs : List α => PyData.tuple (xs.map d)) := ⟨fun x => ⟨by simp [PyData.eqv], by simp [PyData.eqv]⟩⟩
instance {d : α → PyData} {f : β → PyData} : NoN (fun p : α × β => PyData.tuple [d p.1, f p.2]) := ⟨fun x => ⟨by simp [PyData.eqv], by simp [PyData.eqv]⟩⟩
/-- a method of a built-in type that changes nothing -/
def RBM (rr : V → List V → Hp → VK → Prop) (R : Rep α) (A : AR ι) (T : Rep γ) (f : α → ι → Option γ) : Prop :=
  ∀ v vs x i z H G, R.r G v x → A.r G vs i → f x i = some z → Ex G H → ∀ Q : VK, (∀ u H2 G2, Up G H G2 H2 → T.r G2 u z → Q u H2) → rr v vs H Q
theorem e_bmL {rr : V → List V → Hp → VK → Prop} {f : List α → ι → Option γ} {m : Option (List α)} {mi : Option ι} (hr : RBM rr (rL R) A T f) (h : E te σ G W (rL R) m) (ha : EA ta σ G W A mi) : E (tBM K "list" rr te ta) σ G W T (m >>= fun x => mi >>= fun i => f x i) := fun z hz H e e' Q q => by
  obtain ⟨x, hx, hz⟩ := bindS hz
  obtain ⟨i, hi, hz⟩ := bindS hz
  refine h x hx H e e' _ fun v H1 G1 u1 r1 => ?_
  refine ⟨?_, (ha.mono u1.gg (e'.trans u1.hh)) i hi H1 u1.gh (Ex.refl _) _ fun vs H2 G2 u2 r2 => ?_⟩
  · obtain ⟨a, us, rfl, h2, _⟩ := r1
    exact .inl ⟨rfl, us, Or.inl (Or.inl (u1.gh a _ h2))⟩
  · exact hr v vs x i z H2 G2 ((rL R).mono u2.gg r1) r2 hz u2.gh Q fun u H3 G3 u3 r3 => q u H3 G3 ((u1.trans u2).trans u3) r3
def idxM (eq : α → α → Bool) (xs : List α) (y : α) : Option Int := (xs.findIdx? fun z => eq z y) >>= fun j => some (j : Int)
theorem idx_ok {eq : α → α → Bool} : ∀ {xs : List α} {y : α} {j : Nat}, (xs.findIdx? fun z => eq z y) = some j → ∃ z, xs[j]? = some z ∧ eq z y = true ∧ ∀ m z', m < j → xs[m]? = some z' → eq z' y = false := fun {xs y j} h => by
  obtain ⟨h1, h2, h3⟩ := List.findIdx?_eq_some_iff_getElem.mp h
  refine ⟨xs[j], List.getElem?_eq_getElem h1, h2, fun m z' hm hz => ?_⟩
  obtain ⟨hl, e⟩ := List.getElem?_eq_some_iff.mp hz
  subst e
  have := h3 m hm
  simpa using this
theorem rbm_index {eq : α → α → Bool} (f : FlR R eq) : RBM (rIndex K) (rL R) (aC R aN) rI (fun xs i => idxM eq xs i.1) := fun v vs xs i z H G hv ha hz e Q q => by
  obtain ⟨a, us, rfl, h2, h3⟩ := hv
  obtain ⟨y, _, rfl, r, rfl⟩ := ha
  obtain ⟨j, hj, hz⟩ := bindS hz
  cases hz
  obtain ⟨z, hz, he, hb⟩ := idx_ok hj
  obtain ⟨_, h5⟩ := pr_inV f r h3
  obtain ⟨w, hw, rw_⟩ := pr_get h3 hz
  refine ⟨a, us, y, j, w, rfl, rfl, Or.inl (Or.inl (e a _ h2)), f.fl r, h5, hw, by rw [f.eq rw_ r]; exact he, fun m z' hm hz' => ?_, q _ H G (Up.refl e) rfl⟩
  obtain ⟨x', hx', r'⟩ := pr_get' h3 hz'
  rw [f.eq r' r]; exact hb m x' hm hx'
end
end Sim

/-! operators of own classes: ==, len, in, binary and unary ones -/
namespace L2
open PySem PySem.Spec PyProof.Rows
section
variable {X : Cx} {CX : CXT} {k : Nat} {f C : Addr} {fd : FuncData} {ps : List Str} {sp : Sp} {pins : List (Addr × Obj)} {σ : St} {H : Hp} {s : Shared} {ta tb : TE}
theorem rel_ni {v : V} {u : Value} (r : RelV v u) : u ≠ .notImplemented := by
  rintro rfl
  cases v <;> first | (cases r; done) | (obtain ⟨_, r⟩ := r; cases r)
/-- a special method runs -/
theorem run_sp {A : Around} {Q : VK} {us : List Value} {vs : List V} {E : XK} (F : FnOk X.prog X.w X.K X.mg X.base CX k f fd ps sp) (hr : Room k A) (hfr : A.frames = X.A.frames) (hb : Binds X.K fd ps []) (hx : PassesAt CX X σ E)
    (I : Inv X pins σ H s) (r : Vals vs us) (h : sp vs H Q E) : wpAny (model X.prog X.w) A (call (.ref f) us) (EP X pins σ Q) X.xe s := by
  have hl : us.length = ps.length := by rw [← r.length]; exact F.len _ _ _ _ h
  have b := hb s us I.kIn (by rw [List.append_nil]; exact hl)
  rw [List.append_nil] at b
  have e := I.env0
  have e0 : Env0 X.prog X.w X.K X.mg X.base A X.stack s H := ⟨by rw [hfr]; exact e.frames, e.mod, e.bs, e.bsz, e.funs, e.frf, e.hok, e.bare⟩
  refine wpAny_call (codeAny_mono (F.run A X.stack s H ⟨us, []⟩ us vs Q E hr e0 b r h) fun r s' hq => ?_)
  cases r with
  | error e => exact hx pins H s e s' I hq
  | ok fl =>
    cases fl with
    | ret u => exact I.after hq
    | next => exact False.elim hq
    | brk => exact False.elim hq
    | cont => exact False.elim hq
theorem passAt0 {E : XK} : PassesAt CX0 X σ E := fun _ _ _ _ _ _ h => h.elim
theorem back_ok {v : Value} {Q : Value → Shared → Prop} {s' : Shared} (h : v ≠ .notImplemented) (q : Q v s') : PySem.W.CmpBack Q v s' := by
  cases v <;> first | exact absurd rfl h | exact q
def rInO (C : Addr) (sp : Sp) (g : Bool → Bool) : R2 := fun x y H Q => ∃ a dx fs, y = .ref a ∧ H a = some (.ins C dx fs) ∧ sp [.ref a, x] H (fun v H' => ∃ b, v = .bl b ∧ Q (.bl (g b)) H') E0
theorem op_notInO (F : FnOk X.prog X.w X.K X.mg X.base CX0 k f fd ps sp) (hr : Room k X.A) (M : Meth X.K C "__contains__" f) (hb : Binds X.K fd ps []) : OpR X (compareOp .NotIn) (rInO C sp (!·)) := by
  intro pins s σ H x y v u Q I rx ry h
  obtain ⟨a, dx, fs, rfl, ha, q⟩ := h
  cases ry
  obtain ⟨mA, J, _⟩ := ins_get I.hok ha
  obtain ⟨od, J, _⟩ := J.look
  obtain ⟨m, hF⟩ := I.fr
  refine PySem.W.notIn_K hF I.ok.mod.kin J M.at_ M.fn ?_
  refine wpAny_mono (run_sp (us := [.ref a, v]) (vs := [.ref a, x]) F hr rfl hb passAt0 I (.cons rfl (.cons rx .nil)) q) (fun v s' hv => ?_) fun _ _ z => z
  obtain ⟨z, H', I', rz, b, rfl, qz⟩ := hv
  cases rz
  exact wpAny_pure ⟨.bl (!b), H', I', rfl, qz⟩
end
end L2

/-! operators of own classes: what they read as -/
namespace Sim
open PySem PySem.Spec PyProof.Rows L2 Evl
section
variable {K : PySem.W.Frag} {σ : L2.St} {G H W : Hp} {ta tb te : TE} {tA : TA} {α β γ ι : Type} {R : Rep α} {S : Rep β} {T : Rep γ} {A : AR ι} {C : Addr} {ns : List Str} {fl : α → List Pd}
theorem rr_inO {f : α → β → Option Bool} {g : Bool → Bool} : RR (rInO C (PF (aC (rObj C ns fl) (aC S aN)) rB fun i => f i.1 i.2.1) g) S (rObj C ns fl) rB (fun y x => f x y >>= fun b => some (g b)) := fun v w y x z H G hv hw hz e Q q => by
  obtain ⟨b, hb, hz⟩ := bindS hz
  cases hz
  obtain ⟨a, dx, fs, rfl, h2, h3⟩ := hw
  exact ⟨a, dx, fs, rfl, e a _ h2, G, (x, y, ()), b, e, ⟨_, _, rfl, ⟨a, dx, fs, rfl, h2, h3⟩, _, _, rfl, hv, rfl⟩, hb, fun u H2 G2 up r => by cases r; exact ⟨b, rfl, q _ H2 G2 up rfl⟩⟩
theorem tyi_of {C : Str} {a dx : Addr} {fs : List (Str × V)} (h : tyiB C K = true) (cl : Cls K (He.ga K C)) (e : H a = some (.ins (He.ga K C) dx fs)) : TyOf K H (.ref a) (.ref (He.ga K C)) := by
  obtain ⟨h1, h⟩ := He.ba h
  obtain ⟨h2, h⟩ := He.ba h
  obtain ⟨h3, h4⟩ := He.ba h
  exact .ins e cl (of_decide_eq_true h1) (of_decide_eq_true h2) (of_decide_eq_true h3) (of_decide_eq_true h4)
theorem e_isiO {C D : Str} {ns : List Str} {fl : α → List Pd} {m : Option α} {b : Bool} (h : E te σ G W (rObj (He.ga K C) ns fl) m) (ht : tyiB C K = true) (cl : Cls K (He.ga K C)) (hk : PySem.W.kitOne K (.ref (He.ga K C)) (.ref (He.ga K D)) = some b) :
    E (tCB (rIsi K) (tCons te (tCons (tC (.ref (He.ga K D))) tNil))) σ G W rB (m >>= fun _ => some b) := fun z hz H e e' Q q => by
  obtain ⟨x, hx, hz⟩ := bindS hz
  cases hz
  refine h x hx H e e' _ fun v H1 G1 u r => ?_
  obtain ⟨a, dx, fs, rfl, h2, _⟩ := r
  exact ⟨.ref a, .ref (He.ga K D), .ref (He.ga K C), .ref (He.ga K D), _, rfl, .own _, .base (tyi_of ht cl (u.gh a _ h2)), hk, q _ H1 G1 u rfl⟩
theorem ki_ok {C D : Str} {b : Bool} (h : kiOB C D b K = true) : PySem.W.kitOne K (.ref (He.ga K C)) (.ref (He.ga K D)) = some b := of_decide_eq_true h
end
end Sim

/-! what is walked, told in general; comprehensions with two clauses -/
namespace Sim
open PySem L2 Evl
section
variable {K : PySem.W.Frag} {σ : L2.St} {G H W G' W' : Hp} {te tl : TE} {tt tt1 : TT} {α β γ δ : Type} {R : Rep α} {S : Rep β} {T : Rep γ} {wi wi1 : TI} {g g1 : TG}
/-- a target: how the slots stand behind -/
def Tgt (g : TG) (R : Rep α) (P : Hp → α → L2.St → L2.St → Prop) : Prop :=
  ∀ v x σ G H (Q : L2.St → Hp → Prop), Ex G H → R.r G v x → (∀ σ2, P G x σ σ2 → Q σ2 H) → g v σ H Q
def pP (R : Rep α) (S : Rep β) (i j : Nat) : Hp → α × β → L2.St → L2.St → Prop := fun G x σ σ2 => ∃ v w, R.r G v x.1 ∧ S.r G w x.2 ∧ σ2 = (σ.set i (some v)).set j (some w)
theorem tg_pair {i j : Nat} : Tgt (gTup K 2 (gCons (gName i) (gCons (gName j) gNil))) (rP R S) (pP R S i j) := fun v x σ G H Q e r k => g_pair r e fun y z h1 h2 => k _ ⟨y, z, h1, h2, rfl⟩
/-! ### [e2 for x in xs if f1 for y in g2 x if p2] -/
section
variable {G0 H0 : Hp} {D : Addr} {acc : List V} {ys zs : List γ}
theorem Acc.add {v : V} {y : γ} (A : Acc G0 H0 T D G H acc ys) (r : T.r G v y) : Acc G0 H0 T D G (upd H D (.lst (acc ++ [v]))) (acc ++ [v]) (ys ++ [y]) := by
  refine ⟨A.n, ⟨A.u.gg, fun a o h => ?_, Ex.mut A.u.hh A.n, A.u.nw⟩, A.gd, upd_same, pr_app A.pr (.cons r .nil)⟩
  rw [upd_ne (fun z => by subst z; rw [A.gd] at h; cases h)]
  exact A.u.gh a o h
theorem Acc.start (e : Ex G0 H0) (hD : H0 D = none) : Acc G0 H0 T D G0 (upd H0 D (.lst [])) [] [] := ⟨hD, Up.same e (Ex.new hD), fresh_back e hD, upd_same, .nil⟩
theorem Acc.fin (A : Acc G0 H0 T D G H acc ys) : ∃ G, H0 D = none ∧ Up G0 H0 G H ∧ Wd G H [(D, cL T ys)] := by
  refine ⟨G, A.n, A.u, A.u.gh, fun c hc => ?_, List.nodup_cons.mpr ⟨List.not_mem_nil, List.nodup_nil⟩⟩
  cases List.mem_singleton.mp hc
  exact ⟨A.gd, _, A.hd, acc, rfl, A.pr⟩
end
/-! ### is True, is False; and where the first operand is known -/
end
section
variable {K : PySem.W.Frag} {σ : L2.St} {G H W : Hp} {te ta : TE} {α : Type}
end
end Sim

/-! static methods, class constants read off the class -/
namespace L2
open PySem PySem.Spec PyProof.Rows
section
variable {X : Cx} {CX : CXT} {k : Nat} {f C p : Addr} {fd : FuncData} {ps : List Str} {sp : Sp} {E : St → XK} {x m : Str} {pos apos : Pos} {e o : Expr} {es : List Expr} {ta : TE} {t : TA}
end
end L2
namespace Sim
open PySem PySem.Spec PyProof.Rows L2 Evl
section
variable {K : PySem.W.Frag} {σ : L2.St} {G H W : Hp} {ta : TA} {ι γ : Type} {A : AR ι} {T : Rep γ} {C : Addr}
end
end Sim

/-! data of mixed kinds; a pair unpacked; one-clause comprehensions over anything -/
namespace Sim
open PySem L2 Evl
/-- any data without dicts -/
def rD (K : PySem.W.Frag) : Rep PyData := ⟨fun H v d => Dp K H v d ∧ d.plain = true ∧ d.depth ≤ 20, fun e ⟨h, r⟩ => ⟨Dp.up e h, r⟩⟩
section
variable {K : PySem.W.Frag} {σ : L2.St} {G H W G0 H0 : Hp} {ls : List Addr} {cs : Cs} {te : TE} {α β γ : Type} {R : Rep α} {S : Rep β} {T : Rep γ} {D : Ends} {tz : TS}
theorem e_toD {d : α → PyData} {n : Nat} {m : Option α} (h : E te σ G W R m) (hd : Dt R d n) (hn : n ≤ 20) : E te σ G W (rD K) (m >>= fun x => some (d x)) := fun z hz H e e' Q q => by
  obtain ⟨x, hx, hz⟩ := bindS hz
  cases hz
  exact h x hx H e e' Q fun v H2 G2 u r => q v H2 G2 u ⟨hd.dp r, hd.lay x, Nat.le_trans (hd.dep x) hn⟩
theorem e_nonD : E (tC .non) σ G W (rD K) (some .none) := fun z hz H e e' Q q => by
  cases hz
  exact q _ H G (Up.refl e) ⟨.non, rfl, Nat.zero_le _⟩
def toDM (d : PyData) : Option PyData := bif decide (d.depth ≤ 20) then some d else none
theorem pr_dpD {H : Hp} : ∀ {vs : List V} {xs : List PyData}, Paired ((rD K).r H) vs xs → DpAll K H vs xs ∧ PyData.plainAll xs = true
  | _, _, .nil => ⟨.nil, rfl⟩
  | _, _, .cons r t => by
    obtain ⟨h1, h2⟩ := pr_dpD t
    exact ⟨.cons r.1 h1, Bool.and_eq_true_iff.mpr ⟨r.2.1, h2⟩⟩
theorem e_toDT {m : Option (List PyData)} (h : E te σ G W (rT (rD K)) m) : E te σ G W (rD K) (m >>= fun xs => toDM (.tuple xs)) := fun z hz H e e' Q q => by
  obtain ⟨xs, hx, hz⟩ := bindS hz
  unfold toDM at hz
  cases hb : decide ((PyData.tuple xs).depth ≤ 20) with
  | false => rw [hb] at hz; cases hz
  | true =>
    rw [hb] at hz
    cases hz
    refine h xs hx H e e' Q fun v H2 G2 u r => ?_
    obtain ⟨a, vs, rfl, h2, h3⟩ := r
    obtain ⟨k1, k2⟩ := pr_dpD h3
    exact q _ H2 G2 u ⟨.tup (Or.inl (Or.inl h2)) k1, k2, of_decide_eq_true hb⟩
theorem rr_neDD : RR (rNeP K) (rD K) (rD K) rB (fun x y => some (!PyData.eqv x y)) := fun v w x y z H G hv hw hz e Q q => by
  cases hz
  obtain ⟨h1, h2, h3⟩ := (rD K).mono e hv
  obtain ⟨k1, k2, k3⟩ := (rD K).mono e hw
  exact ⟨x, y, h1, k1, ⟨h2, by omega⟩, ⟨k2, by omega⟩, q _ H G (Up.refl e) rfl⟩
def noneD : PyData → Bool
  | .none => true
  | _ => false
theorem noneD_ok {v : V} {d : PyData} (h : Dp K H v d) : decide (v = .non) = noneD d := by
  cases h <;> first | rfl | simp [noneD]
theorem rr_isND : RR (fun x y H Q => y = .non ∧ Q (.bl (decide (x = .non))) H) (rD K) rU rB (fun d _ => some (noneD d)) := fun v w o y z H G hv hw hz e Q q => by
  cases hz
  exact ⟨hw, q _ H G (Up.refl e) (congrArg V.bl (noneD_ok hv.1))⟩
end
section
variable {K : PySem.W.Frag} {σ : L2.St} {G H W : Hp} {te : TE} {tt : TT} {α γ : Type} {R : Rep α} {T : Rep γ} {wi : TI} {g : TG}
end
end Sim

/-! dicts -/
namespace Sim
open PySem L2 Evl
section
variable {K : PySem.W.Frag} {σ : L2.St} {G H W : Hp} {κ α β γ : Type} {kf : κ → Key} {R : Rep α}
/-- a < b < c -/
theorem e_chain {ta tb tc : TE} {r r' : R2} {S : Rep β} {T : Rep γ} {f : α → β → Option Bool} {g : β → γ → Option Bool} {ma : Option α} {mb : Option β} {mc : Option γ} (hr : RR r R S rB f) (hr' : RR r' S T rB g)
    (ha : E ta σ G W R ma) (hb : E tb σ G W S mb) (hc : E tc σ G W T mc) : E (tChain r r' ta tb tc) σ G W rB (ma >>= fun x => mb >>= fun y => andO (f x y) (mc >>= fun z => g y z)) := fun z hz H e e' Q q => by
  obtain ⟨x, hx, hz⟩ := bindS hz
  obtain ⟨y, hy, hz⟩ := bindS hz
  obtain ⟨b, hb', hz⟩ := bindS hz
  refine ha x hx H e e' _ fun v H1 G1 u1 r1 => ?_
  refine (hb.mono u1.gg (e'.trans u1.hh)) y hy H1 u1.gh (Ex.refl _) _ fun w H2 G2 u2 r2 => ?_
  refine hr v w x y b H2 G2 (R.mono u2.gg r1) r2 hb' u2.gh _ fun u H3 G3 u3 r3 => ?_
  cases r3
  refine ⟨b, rfl, ?_⟩
  cases b with
  | false =>
    have hz : some false = some z := hz
    cases hz
    rw [if_neg (by decide)]
    exact q _ H3 G3 ((u1.trans u2).trans u3) rfl
  | true =>
    rw [if_pos rfl]
    obtain ⟨c, hc', hz⟩ := bindS (show (mc >>= fun z => g y z) = some z from hz)
    refine (hc.mono ((u1.gg.trans u2.gg).trans u3.gg) (((e'.trans u1.hh).trans u2.hh).trans u3.hh)) c hc' H3 u3.gh (Ex.refl _) _ fun w4 H4 G4 u4 r4 => ?_
    exact hr' w w4 y c z H4 G4 (S.mono (u3.gg.trans u4.gg) r2) r4 hz u4.gh Q fun u5 H5 G5 up5 r5 => q u5 H5 G5 ((((u1.trans u2).trans u3).trans u4).trans up5) r5
end
end Sim

set_option maxHeartbeats 2000000
/-! own iterables: __iter__ gives iter(a list of theirs) -/
namespace L2
open PySem PySem.Spec PyProof.Rows ItX
/-- a def whose promise may speak of how many objects there are when it is called -/
structure FnOkS (P : Program) (w : World) (K : PySem.W.Frag) (mg : Str → Option Value) (base : Heap) (k : Nat) (f : Addr) (fd : FuncData) (ps : List Str) (sp : Nat → Sp) : Prop where
  len : ∀ n vs H Q E, sp n vs H Q E → vs.length = ps.length
  run : ∀ (A : Around) (outer : List Env) (s : Shared) (H : Hp) (args : Args) (us : List Value) (vs : List V) (Q : VK) (E : XK), Room k A → Env0 P w K mg base A outer s H → BindsTo s fd args (ps.zip us) → Vals vs us → sp s.heap.objs.size vs H Q E →
    codeAny (model P w) A (.call (.ref f) args) (CR CX0 outer P w H s Q E) s
section
variable {X : Cx} {k j : Nat} {fi C : Addr} {fd : FuncData} {ps : List Str} {pins : List (Addr × Obj)} {σ : St} {H : Hp} {s : Shared} {te : TE} {f : Str}
/-! ### list(o) -/
variable {fl : Addr} {fdl : FuncData} {psl : List Str} {spl : Sp}
end
end L2

namespace Sim
open PySem L2 Evl
section
variable {K : PySem.W.Frag} {σ : L2.St} {G H W : Hp} {te : TE} {α β γ : Type} {R : Rep β} {C : Addr} {ns : List Str} {fl : α → List Pd}
end
end Sim
namespace Sim
open PySem L2
end Sim

set_option maxHeartbeats 2000000
/-! a class with slots -/
namespace L2
open PySem PySem.Spec PyProof.Rows SlX
section
variable {X : Cx} {CX : CXT} {k : Nat} {f C : Addr} {fd : FuncData} {ps : List Str} {sp : Sp} {pins : List (Addr × Obj)} {σ : St} {H : Hp} {s : Shared} {ta tb : TE}
theorem fnR_of (F : FnOk X.prog X.w X.K X.mg X.base CX k f fd ps sp) (hb : Binds X.K fd ps []) : FnR X.prog X.w X.K X.mg X.base CX k f sp :=
  (F.raw hb .nil).imp fun vs H Q E h => by rw [List.append_nil]; exact h
end
end L2
namespace Sim
open PySem PySem.Spec PyProof.Rows L2 Evl SlX
def cN (C dx : Addr) : CP := ⟨fun _ o => o = .ins C dx [], fun _ h => h⟩
def cOw (x : Addr) : CP := ⟨fun _ o => o = .own x, fun _ h => h⟩
def cXd : CP := ⟨fun _ o => o = .xd [], fun _ h => h⟩
def cSl (x C dx : Addr) (ps : Ps) : CP := ⟨fun G o => ∃ vs, o = SlO x C dx vs ∧ PsAt ps G vs, fun e ⟨vs, h1, h2⟩ => ⟨vs, h1, h2.mono e⟩⟩
section
variable {K : PySem.W.Frag} {σ : L2.St} {G0 H0 G H G2 H2 W : Hp} {ls : List Addr} {cs : Cs} {l ld C : Addr} {ta : TA} {te to : TE} {α β γ ι : Type} {R : Rep α} {S : Rep β} {T : Rep γ} {A : AR ι} {D : Ends} {tz : TS} {fl : α → Ps}
/-- self.f = e, the first slot -/
theorem x_sl1 {i j j2 n : Nat} {f : Str} {p : Addr} {m : Option β} {x : β} (w : Wo G0 H0 ls G H cs) (hc : cs[j]? = some (l, cN C ld)) (hd : cs[j2]? = some (ld, cOw l)) (hi : σ[i]? = some (some (.ref l))) (h : E te σ G H S m) (hm : m = some x) (hC : SCls K C) (hs : Slot1 K C f p n)
    (hj : j ≠ j2) (k : ∀ H2 G2, Wo G0 H0 ls G2 H2 ((cs.set j2 (ld, cXd)).set j (l, cSl l C ld [(n, pd S x)])) → Ex G G2 → tz D σ H2) : tSeq (sSl K (tVar i) te f) tz D σ H :=
  h x hm H w.ex (Ex.refl _) (fun y H1 => tVar i σ H1 fun x H2 => ∃ a C dx p vs i, x = .ref a ∧ Slt H2 a C dx vs ∧ SCls K C ∧ Slot1 K C f p i ∧ tz D σ (slH H2 a C dx (putS i y vs))) fun v H3 G3 u r => by
    have w3 := w.up u
    obtain ⟨_, o3, k2, k3⟩ := w3.w.getAt hc
    subst k3
    refine ⟨.ref l, hi, l, C, ld, p, [], n, rfl, .inl ⟨k2, rfl⟩, hC, hs, ?_⟩
    have w4 := w3.writeAt (cp' := cXd) (o := .xd []) hd rfl
    have hc' : (cs.set j2 (ld, cXd))[j]? = some (l, cN C ld) := by rw [List.getElem?_set_ne (Ne.symm hj)]; exact hc
    exact k _ _ (w4.writeAt (cp' := cSl l C ld [(n, pd S x)]) (o := SlO l C ld (putS n v [])) hc' ⟨_, rfl, fun q hq => by
      rw [List.mem_singleton.mp hq]
      exact ⟨v, putS_get n v [], r⟩⟩) u.gg
/-- self.f = e, a further slot -/
theorem x_slN {i j j2 n : Nat} {f : Str} {p : Addr} {m : Option β} {x : β} {ps : Ps} (w : Wo G0 H0 ls G H cs) (hc : cs[j]? = some (l, cSl l C ld ps)) (hd : cs[j2]? = some (ld, cXd)) (hi : σ[i]? = some (some (.ref l))) (h : E te σ G H S m) (hm : m = some x) (hC : SCls K C) (hs : Slot1 K C f p n)
    (hj : j ≠ j2) (hn : ∀ p ∈ ps, p.1 ≠ n) (k : ∀ H2 G2, Wo G0 H0 ls G2 H2 ((cs.set j2 (ld, cXd)).set j (l, cSl l C ld (ps ++ [(n, pd S x)]))) → Ex G G2 → tz D σ H2) : tSeq (sSl K (tVar i) te f) tz D σ H :=
  h x hm H w.ex (Ex.refl _) (fun y H1 => tVar i σ H1 fun x H2 => ∃ a C dx p vs i, x = .ref a ∧ Slt H2 a C dx vs ∧ SCls K C ∧ Slot1 K C f p i ∧ tz D σ (slH H2 a C dx (putS i y vs))) fun v H3 G3 u r => by
    have w3 := w.up u
    obtain ⟨_, o3, k2, vs, rfl, k3⟩ := w3.w.getAt hc
    obtain ⟨_, o4, d2, d3⟩ := w3.w.getAt hd
    subst d3
    refine ⟨.ref l, hi, l, C, ld, p, vs, n, rfl, .inr ⟨k2, d2⟩, hC, hs, ?_⟩
    have w4 := w3.writeAt (cp' := cXd) (o := .xd []) hd rfl
    have hc' : (cs.set j2 (ld, cXd))[j]? = some (l, cSl l C ld ps) := by rw [List.getElem?_set_ne (Ne.symm hj)]; exact hc
    exact k _ _ (w4.writeAt (cp' := cSl l C ld (ps ++ [(n, pd S x)])) (o := SlO l C ld (putS n v vs)) hc' ⟨_, rfl, k3.put hn r⟩) u.gg
theorem new_slt {x dx : Addr} (e : Ex G H) (nx : H x = none) (ndx : H dx = none) (ne : dx ≠ x) : Wd G (upd (upd H dx (.own x)) x (.ins C dx [])) [(x, cN C dx), (dx, cOw x)] := by
  have nx' : (upd H dx (.own x)) x = none := by rw [upd_ne ne.symm]; exact nx
  have e1 : Ex G (upd H dx (.own x)) := e.trans (Ex.new ndx)
  exact ((Wd.nil e).new ndx rfl).new nx' rfl
theorem sl_freeze {x dx : Addr} {ps : Ps} (w : Wd G H [(x, cSl x C dx ps), (dx, cXd)]) : ∃ G2, Ex G G2 ∧ Ex G2 H ∧ (∀ a, a ≠ x → a ≠ dx → G a = none → G2 a = none) ∧ ∃ vs, G2 x = some (SlO x C dx vs) ∧ G2 dx = some (.xd []) ∧ PsAt ps G2 vs := by
  obtain ⟨h1, o, h2, vs, rfl, h3⟩ := w.head
  obtain ⟨d1, o2, d2, d3⟩ := w.tail.head
  subst d3
  have ne : dx ≠ x := fun z => by
    have := w.nd
    rw [z] at this
    simp at this
  have e2 : Ex G (upd (upd G dx (.xd [])) x (SlO x C dx vs)) := (Ex.new d1).trans (Ex.new (by rw [upd_ne ne.symm]; exact h1))
  refine ⟨_, e2, fun a u e => ?_, fun a n1 n2 h => by rw [upd_ne n1, upd_ne n2]; exact h, vs, upd_same, by rw [upd_ne ne]; exact upd_same, h3.mono e2⟩
  by_cases q : a = x
  · subst q; rw [upd_same] at e; cases e; exact h2
  · rw [upd_ne q] at e
    by_cases q2 : a = dx
    · subst q2; rw [upd_same] at e; cases e; exact d2
    · rw [upd_ne q2] at e; exact w.ex a u e
/-- o.f -/
theorem e_sl {m : Option α} {f : Str} {p : Addr} {n : Nat} (g : α → β) (h : E to σ G W (rSl C fl) m) (hC : SCls K C) (hs : Slot1 K C f p n) (hp : ∀ x, (n, pd S (g x)) ∈ fl x) : E (tSl K to f) σ G W S (m >>= fun x => some (g x)) := fun z hz H e e' Q q => by
  obtain ⟨x, hx, hz⟩ := bindS hz
  cases hz
  refine h x hx H e e' _ fun v H1 G1 u r => ?_
  obtain ⟨a, dx, vs, rfl, h2, h3, h4⟩ := r
  obtain ⟨w, hw, r2⟩ := h4 _ (hp x)
  exact ⟨a, C, dx, p, vs, n, w, rfl, .inr ⟨u.gh a _ h2, u.gh dx _ h3⟩, hC, hs, hw, q w H1 G1 u r2⟩
/-! own == -/
end
/-! facts of the text -/
theorem scl_ok {C : Str} {K : PySem.W.Frag} (h : sclB C K = true) : SCls K (He.ga K C) := by
  obtain ⟨h1, h⟩ := He.ba h
  obtain ⟨h2, h⟩ := He.ba h
  obtain ⟨h3, h4⟩ := He.ba h
  exact ⟨h1, h2, h3, of_decide_eq_true h4⟩
theorem slot_ok {C f : Str} {i : Nat} {K : PySem.W.Frag} (h : slotB C f i K = true) : Slot1 K (He.ga K C) f (He.ma K (He.ga K C) f) i := by
  obtain ⟨h1, h⟩ := He.ba h
  obtain ⟨h2, h⟩ := He.ba h
  obtain ⟨h3, h⟩ := He.ba h
  obtain ⟨h4, h⟩ := He.ba h
  obtain ⟨h5, h6⟩ := He.ba h
  exact ⟨of_decide_eq_true h1, of_decide_eq_true h2, of_decide_eq_true h3, of_decide_eq_true h4, of_decide_eq_true h5, of_decide_eq_true h6⟩
end Sim

/-! cells of any kind; dicts; texts -/
namespace L2
open PySem PySem.Spec PyProof.Rows
section
variable {X : Cx}
def rMulS : R2 := fun x y H Q => ∃ z n, x = .str z ∧ y = .int n ∧ MulOk z n ∧ Q (.str (Txt.mul z n)) H
theorem op_mulS : OpR X (binaryOp .Mult) rMulS := by
  intro pins s σ H x y v u Q I rx ry h
  obtain ⟨z, n, rfl, rfl, hok, q⟩ := h
  obtain ⟨t, rfl⟩ := rx
  obtain ⟨t', rfl⟩ := ry
  exact SB.mul hok fun t2 k => ⟨.str _, H, I.tok _, ⟨_, rfl⟩, q⟩
abbrev rAddS : R2 := fun x y H Q => ∃ i j, x = .str i ∧ y = .str j ∧ i.length + j.length ≤ sizeLine ∧ Q (.str (i ++ j)) H
end
end L2
namespace Sim
open PySem L2 Evl
/-! ### texts -/
def addS (x y : Str) : Option Str := bif decide (x.length + y.length < 100000) then some (x ++ y) else none
def mulS (z : Str) (n : Int) : Option Str := bif decide (n < 100 ∧ -100 < n ∧ z.length < 1000) then some (Txt.mul z n) else none
def ixS (z : Str) (i : Int) : Option Str := bif decide (z.length < 100000) then (atI z.cps.toList i >>= fun c => some ⟨#[c]⟩) else none
theorem bifO1 {α : Type} {c : Prop} [Decidable c] {m : Option α} {z : α} (h : (bif decide c then m else none) = some z) : c ∧ m = some z := by
  cases hc : decide c with
  | false => rw [hc] at h; cases h
  | true => rw [hc] at h; exact ⟨of_decide_eq_true hc, h⟩
section
variable {K : PySem.W.Frag} {σ : L2.St} {G0 H0 G H G2 H2 W : Hp} {ls : List Addr} {cs : Cs} {l : Addr} {cp' : CP} {ta : TA} {te td ti tx : TE} {α β γ ι κ : Type} {R : Rep α} {S : Rep β} {T : Rep γ} {A : AR ι} {D : Ends} {tz : TS}
theorem rr_addS : RR rAddS rS rS rS (fun x y => addS x y) := fun v w x y z H G hv hw hz e Q q => by
  cases hv; cases hw
  obtain ⟨h, hz⟩ := bifO1 hz
  cases hz
  exact ⟨x, y, rfl, rfl, by rw [sizeLine_eq]; omega, q _ H G (Up.refl e) rfl⟩
theorem rr_mulS : RR rMulS rS rI rS (fun x y => mulS x y) := fun v w x y z H G hv hw hz e Q q => by
  cases hv; cases hw
  obtain ⟨⟨h1, h2, h3⟩, hz⟩ := bifO1 hz
  cases hz
  refine ⟨x, y, rfl, rfl, ⟨?_, fun h4 _ h5 => ?_, fun h4 _ => ?_⟩, q _ H G (Up.refl e) rfl⟩
  · rw [Bool.or_eq_false_iff]; exact ⟨decide_eq_false (by omega), decide_eq_false (by omega)⟩
  · have : (2 ^ 63 - 1 : Int) / y ≥ 1000 := by
      apply (Int.le_ediv_iff_mul_le (by omega)).mpr
      omega
    omega
  · have h6 : x.length * y.toNat ≤ 1000 * 100 := Nat.mul_le_mul (by omega) (by omega)
    exact decide_eq_false (by rw [sizeLine_eq]; omega)
theorem rr_ixS : RR rIxS rS rI rS (fun x y => ixS x y) := fun v w x y z H G hv hw hz e Q q => by
  cases hv; cases hw
  obtain ⟨h, hz⟩ := bifO1 hz
  obtain ⟨c, hc, hz⟩ := bindS hz
  cases hz
  exact ⟨x, y, c, rfl, rfl, by rw [sizeLine_eq]; omega, hc, q _ H G (Up.refl e) rfl⟩
/-! ### cells of any kind -/
variable {cp : β → CP}
theorem Wo.newC {p : Addr} {c : CP} (w : Wo G0 H0 ls G H cs) (n : H p = none) (u : Up G H G2 H2) (w2 : Wd G2 H2 [(p, c)]) : Wo G0 H0 ls G2 H2 ((p, c) :: cs) := by
  have n0 : H0 p = none := by
    cases q : H0 p with
    | none => rfl
    | some o => exact absurd n (w.f.st p (by rw [q]; simp))
  have w3 := w.up u
  refine ⟨⟨w3.ex, fun c hc => ?_, ?_⟩, w3.f, fun c hc => ?_⟩
  · rcases List.mem_cons.mp hc with hc | hc
    · subst hc; exact w2.head
    · exact w3.w.at_ c hc
  · refine List.nodup_cons.mpr ⟨fun hm => ?_, w.w.nd⟩
    obtain ⟨c, hc, e⟩ := List.mem_map.mp hm
    obtain ⟨_, o', h2, _⟩ := w.w.at_ c hc
    exact ne_of_none h2 n e
  · rcases List.mem_cons.mp hc with hc | hc
    · subst hc; exact .inr n0
    · exact w.lo c hc
theorem c_c {m : Option β} {x : β} {Q : VK} (w : Wo G0 H0 ls G H cs) (h : EC te σ G H cp m) (hm : m = some x) (k : ∀ p H2 G2, H0 p = none → Wo G0 H0 ls G2 H2 ((p, cp x) :: cs) → Ex G G2 → Q (.ref p) H2) : te σ H Q :=
  h x hm H w.ex (Ex.refl _) Q fun p H2 G2 hp u w2 => k p H2 G2 (by
    cases q : H0 p with
    | none => rfl
    | some o => exact absurd hp (w.f.st p (by rw [q]; simp))) (w.newC hp u w2) u.gg
theorem x_setC {i : Nat} {m : Option β} {x : β} (w : Wo G0 H0 ls G H cs) (h : EC te σ G H cp m) (hm : m = some x) (k : ∀ p H2 G2, H0 p = none → Wo G0 H0 ls G2 H2 ((p, cp x) :: cs) → Ex G G2 → tz D (σ.set i (some (.ref p))) H2) : tSeq (tAsg te (gName i)) tz D σ H :=
  c_c (Q := fun x H1 => gName i x σ H1 (tz D)) w h hm k
theorem Wo.freezeC {i : Nat} {x : β} (F : Fz cp S) (w : Wo G0 H0 ls G H cs) (h : cs[i]? = some (l, cp x)) (hl : H0 l = none) : ∃ G2, Wo G0 H0 ls G2 H (cs.eraseIdx i) ∧ Ex G G2 ∧ S.r G2 (.ref l) x := by
  obtain ⟨h1, o, h2, h3⟩ := w.w.getAt h
  refine ⟨upd G l o, ⟨⟨fun a u e => ?_, fun c hc => ?_, ?_⟩, ⟨w.f.gg.trans (Ex.new h1), w.f.fr, fun a k1 k2 => ?_, w.f.st⟩, fun c hc => w.lo c (List.mem_of_mem_eraseIdx hc)⟩, Ex.new h1, F h3 (Ex.new h1) upd_same⟩
  · by_cases q : a = l
    · subst q; rw [upd_same] at e; cases e; exact h2
    · rw [upd_ne q] at e; exact w.ex a u e
  · obtain ⟨k1, o', k2, k3⟩ := w.w.at_ c (List.mem_of_mem_eraseIdx hc)
    have ne : c.1 ≠ l := fun z => by
      have hi : (cs.map (·.1))[i]? = some l := by rw [List.getElem?_map, h]; rfl
      obtain ⟨j, hj, e⟩ := List.mem_iff_getElem.mp hc
      have e : (cs.eraseIdx i)[j]? = some c := by rw [List.getElem?_eq_getElem hj, e]
      rw [List.getElem?_eraseIdx] at e
      split at e
      · rename_i hlt
        have : (cs.map (·.1))[j]? = some l := by rw [List.getElem?_map, e]; exact congrArg some z
        have := nodup_ix w.w.nd hi this
        omega
      · rename_i hlt
        have : (cs.map (·.1))[j + 1]? = some l := by rw [List.getElem?_map, e]; exact congrArg some z
        have := nodup_ix w.w.nd hi this
        omega
    exact ⟨by rw [upd_ne ne]; exact k1, o', k2, c.2.mono (Ex.new h1) k3⟩
  · exact List.Pairwise.sublist ((List.eraseIdx_sublist cs i).map (·.1)) w.w.nd
  · by_cases q : a = l
    · subst q; exact absurd hl k1
    · rw [upd_ne q]; exact w.f.nw a k1 k2
/-! ### dicts -/
variable {κ : Type} [DecidableEq κ] {kf : κ → Key}
theorem fzM : Fz (cM kf R) (rM kf R) := fun ⟨ws, h1, h2⟩ e h => ⟨_, ws, rfl, by rw [h, h1], Paired.mapP h2 fun _ _ h => ⟨h.1, R.mono e h.2⟩⟩
theorem ec_dnew : EC tDNewK σ G W (cM kf R) (some []) := fun z hz H e e' Q q => by
  cases hz
  intro p hp
  exact q p (upd H p (.dK [])) G hp (up_new e hp) ((Wd.nil e).new hp ⟨[], rfl, .nil⟩)
def putMM (kvs : List (κ × α)) (k : κ) (x : α) : Option (List (κ × α)) := bif decide (kvs.length < 100000) then some (putM kvs k x) else none
abbrev Inj (kf : κ → Key) : Prop := ∀ a b, kf a = kf b → a = b
theorem injS : Inj (Sum.inr : Str → Key) := fun _ _ h => Sum.inr.inj h
theorem pm_look (hj : Inj kf) (k : κ) : ∀ {ws : List (Key × V)} {kvs : List (κ × α)}, Pm kf R G ws kvs → (lookM kvs k = none ∧ valV ws (kf k) = none) ∨ ∃ v x, lookM kvs k = some x ∧ valV ws (kf k) = some v ∧ R.r G v x
  | _, _, .nil => .inl ⟨rfl, rfl⟩
  | _, _, .cons (a := p) (b := q) h t => by
    by_cases e : q.1 = k
    · exact .inr ⟨p.2, q.2, by simp [lookM, List.find?_cons, e], by rw [valV_pos (by rw [h.1, e])], h.2⟩
    · have e' : ¬ p.1 = kf k := fun z => e (hj _ _ (h.1.symm.trans z))
      have e1 : ∀ kvs : List (κ × α), lookM (q :: kvs) k = lookM kvs k := fun kvs => by unfold lookM; rw [List.find?_cons, decide_eq_false e]
      rw [e1, valV_neg e']
      exact pm_look hj k t
theorem pm_any (hj : Inj kf) (k : κ) : ∀ {ws : List (Key × V)} {kvs : List (κ × α)}, Pm kf R G ws kvs → (ws.any fun q => decide (q.1 = kf k)) = kvs.any fun q => decide (q.1 = k)
  | _, _, .nil => rfl
  | _, _, .cons (a := p) (b := q) h t => by
    rw [List.any_cons, List.any_cons, pm_any hj k t, h.1]
    congr 1
    by_cases e : q.1 = k
    · rw [decide_eq_true e, decide_eq_true (by rw [e])]
    · rw [decide_eq_false e, decide_eq_false fun z => e (hj _ _ z)]
theorem pm_map (hj : Inj kf) (k : κ) {v : V} {x : α} (r : R.r G v x) : ∀ {ws : List (Key × V)} {kvs : List (κ × α)}, Pm kf R G ws kvs → Pm kf R G (ws.map fun q => if q.1 = kf k then (q.1, v) else q) (kvs.map fun q => if q.1 = k then (q.1, x) else q)
  | _, _, .nil => .nil
  | _, _, .cons (a := p) (b := q) h t => by
    refine .cons ?_ (pm_map hj k r t)
    show (if p.1 = kf k then (p.1, v) else p).1 = kf (if q.1 = k then (q.1, x) else q).1 ∧ R.r G (if p.1 = kf k then (p.1, v) else p).2 (if q.1 = k then (q.1, x) else q).2
    by_cases e : q.1 = k
    · rw [if_pos (by rw [h.1, e]), if_pos e]; exact ⟨h.1, r⟩
    · rw [if_neg fun z => e (hj _ _ (h.1.symm.trans z)), if_neg e]; exact h
theorem pm_app : ∀ {ws : List (Key × V)} {kvs : List (κ × α)} {ws' : List (Key × V)} {kvs' : List (κ × α)}, Pm kf R G ws kvs → Pm kf R G ws' kvs' → Pm kf R G (ws ++ ws') (kvs ++ kvs')
  | _, _, _, _, .nil, h => h
  | _, _, _, _, .cons r t, h => .cons r (pm_app t h)
theorem pm_put (hj : Inj kf) {k : κ} {v : V} {x : α} (r : R.r G v x) {ws : List (Key × V)} {kvs : List (κ × α)} (h : Pm kf R G ws kvs) : Pm kf R G (putK ws (kf k) v) (putM kvs k x) := by
  unfold putK putM
  rw [pm_any hj k h]
  split
  · exact pm_map hj k r h
  · exact pm_app h (.cons ⟨rfl, r⟩ .nil)
theorem pm_at {ws : List (Key × V)} {kvs : List (κ × α)} (e : Ex G H) (h : Pm kf R G ws kvs) : Pm kf R H ws kvs := Paired.mapP h fun _ _ h => ⟨h.1, R.mono e h.2⟩
/-- how a key stands -/
structure KyR (kf : κ → Key) (S : Rep κ) : Prop where
  v : ∀ {H : Hp} {v : V} {k : κ}, S.r H v k → v = kV (kf k)
theorem kyS : KyR Sum.inr rS := ⟨fun h => h⟩
theorem x_putO {a : Nat} (h : te σ H fun v H1 => tVar a σ H1 fun x H2 => ti σ H2 fun y H3 => ∃ a H4, x = .ref a ∧ DPut H3 a y v H4 ∧ tz D σ H4) : tSeq (sDPut (tVar a) ti te) tz D σ H := h
theorem o_putM {a j : Nat} {Sk : Rep κ} {mk : Option κ} {x : α} {v : V} {k : κ} {kvs kvs' : List (κ × α)} (ky : KyR kf Sk) (hj : Inj kf) (w : Wo G0 H0 ls G H cs) (hc : cs[j]? = some (l, cM kf R kvs)) (hi : σ[a]? = some (some (.ref l))) (r : R.r G v x)
    (h' : E ti σ G H Sk mk) (hm' : mk = some k) (hy : putMM kvs k x = some kvs') (kk : ∀ H2 G2, Wo G0 H0 ls G2 H2 (cs.set j (l, cM kf R kvs')) → Ex G G2 → tz D σ H2) :
    tVar a σ H fun x H2 => ti σ H2 fun y H3 => ∃ a H4, x = .ref a ∧ DPut H3 a y v H4 ∧ tz D σ H4 :=
  ⟨.ref l, hi, h' k hm' H w.ex (Ex.refl _) _ fun v' H4 G4 u' r' => by
    have w4 := w.up u'
    obtain ⟨_, o, k2, ws, rfl, k3⟩ := w4.w.getAt hc
    obtain ⟨hl, hy⟩ := bifO1 hy
    cases hy
    rw [ky.v r']
    refine ⟨l, _, rfl, DPut.k k2 (by rw [k3.length, sizeLine_eq]; omega), ?_⟩
    exact kk _ _ (w4.writeAt hc ⟨_, rfl, pm_put hj (R.mono u'.gg r) k3⟩) u'.gg⟩
/-- d[k] -/
theorem e_dget {Sk : Rep κ} {m : Option (List (κ × α))} {mk : Option κ} (ky : KyR kf Sk) (hj : Inj kf) (h : E td σ G W (rM kf R) m) (h' : E ti σ G W Sk mk) : E (tDGet td ti) σ G W R (m >>= fun d => mk >>= fun k => lookM d k) := fun z hz H e e' Q q => by
  obtain ⟨d, hd, hz⟩ := bindS hz
  obtain ⟨k, hk, hz⟩ := bindS hz
  refine h d hd H e e' _ fun v H1 G1 u r => ?_
  refine (h'.mono u.gg (e'.trans u.hh)) k hk H1 u.gh (Ex.refl _) _ fun v' H2 G2 u2 r2 => ?_
  obtain ⟨a, ws, rfl, k2, k3⟩ := (rM kf R).mono u2.gg r
  rcases pm_look hj k k3 with ⟨e1, _⟩ | ⟨w, x, e1, e2, r3⟩
  · rw [e1] at hz; cases hz
  · rw [e1] at hz
    cases hz
    rw [ky.v r2]
    exact ⟨a, w, rfl, by rw [← e2]; exact DGet.k (u2.gh a _ k2), q w H2 G2 (u.trans u2) r3⟩
/-- d.get(k, x) -/
theorem e_dget2 {Sk : Rep κ} {m : Option (List (κ × α))} {mk : Option κ} {mx : Option α} (ky : KyR kf Sk) (hj : Inj kf) (h : E td σ G W (rM kf R) m) (h' : E ti σ G W Sk mk) (hx : E tx σ G W R mx) :
    E (tDGet2 td ti tx) σ G W R (m >>= fun d => mk >>= fun k => mx >>= fun x => some ((lookM d k).getD x)) := fun z hz H e e' Q q => by
  obtain ⟨d, hd, hz⟩ := bindS hz
  obtain ⟨k, hk, hz⟩ := bindS hz
  obtain ⟨x, hx', hz⟩ := bindS hz
  cases hz
  refine h d hd H e e' _ fun v H1 G1 u r => ?_
  obtain ⟨a, ws, rfl, k2, k3⟩ := r
  refine ⟨a, rfl, .inl ⟨ws, .inl (u.gh a _ k2)⟩, ?_⟩
  refine (h'.mono u.gg (e'.trans u.hh)) k hk H1 u.gh (Ex.refl _) _ fun v' H2 G2 u2 r2 => ?_
  refine (hx.mono (u.gg.trans u2.gg) ((e'.trans u.hh).trans u2.hh)) x hx' H2 u2.gh (Ex.refl _) _ fun v3 H3 G3 u3 r3 => ?_
  rw [ky.v r2]
  refine ⟨_, DGet.k (u3.gh a _ (u3.gg a _ (u2.gg a _ k2))), ?_⟩
  rcases pm_look hj k (pm_at (u2.gg.trans u3.gg) k3) with ⟨e1, e2⟩ | ⟨w, y, e1, e2, r4⟩
  · rw [e1] at q; rw [e2]; exact q v3 H3 G3 ((u.trans u2).trans u3) r3
  · rw [e1] at q; rw [e2]; exact q w H3 G3 ((u.trans u2).trans u3) r4
end
end Sim

/-! displays and making of objects, opened -/
namespace Sim
open PySem L2 Evl
section
variable {K : PySem.W.Frag} {C : Addr} {σ : L2.St} {G0 H0 G H G2 H2 W : Hp} {ls : List Addr} {cs : Cs} {l : Addr} {ta : TA} {sp : Sp} {dvs : List V} {X : XK} {Q : VK} {α β ι : Type} {R : Rep α} {S : Rep β} {A : AR ι}
def tK (vs : List V) : TA := fun _ H Q => Q vs H
theorem o_make (h : ta σ H fun vs H1 => tMake C sp dvs X (tK vs) σ H1 Q) : tMake C sp dvs X ta σ H Q := h
theorem o_tup (h : ta σ H fun vs H1 => tTup (tK vs) σ H1 Q) : tTup ta σ H Q := h
end
end Sim

/-! slices of lists, f-strings, join -/
namespace Sim
open PySem L2 Evl
section
variable {K : PySem.W.Frag} {σ : L2.St} {G H W : Hp} {te to : TE} {tl th : TO} {α : Type} {R : Rep α}
/-! f-strings -/
/-! join -/
/-! p[0], p[1] with effects; a cell's element -/
variable {G0 H0 : Hp} {ls : List Addr} {cs : Cs} {l : Addr} {β : Type} {S : Rep β}
/-! C(.., cell, ..) of a class with slots, the cell only read -/
variable {κ ι : Type} {B : Rep κ} {C : Addr} {A : AR ι} {fl : α → Ps} {ad : ι → Addr} {ys : List κ} {ta : TA}
def PIBs (C : Addr) (A : AR ι) (ad : ι → Addr) (B : Rep κ) (fl : α → Ps) (f : List κ → ι → Option α) : Sp := fun vs H Q _ => ∃ G x dx ws i ys o, vs = .ref x :: ws ∧ Wd G H [(x, cN C dx), (dx, cOw x)] ∧ A.r G ws i ∧ Lent G H (ad i) B ys ∧ f ys i = some o ∧
  ∀ H2 G2, Fr G H G2 H2 [x, dx] → Wd G2 H2 [(x, cSl x C dx (fl o)), (dx, cXd)] → Q .non H2
theorem e_makeBS {f : List κ → ι → Option α} {mi : Option ι} {X : XK} (ha : EA ta σ G W A mi) (L : Lent G W l B ys) (hl : ∀ i, mi = some i → ad i = l) : E (tMake C (PIBs C A ad B fl f) [] X ta) σ G W (rSl C fl) (mi >>= fun i => f ys i) := fun z hz H e e' Q q => by
  obtain ⟨i, hi, hz⟩ := bindS hz
  refine ha i hi H e e' _ fun vs H1 G1 u1 r1 => ?_
  have := hl i hi
  subst this
  intro x dx nx ndx ne
  rw [List.append_nil]
  have L1 := L.up e' u1
  have L2 : Lent G1 (upd (upd H1 dx (.own x)) x (.ins C dx [])) (ad i) B ys := by
    obtain ⟨vs', h2, h3⟩ := L1.at_
    exact ⟨L1.n, vs', by rw [upd_ne (ne_of_none h2 nx), upd_ne (ne_of_none h2 ndx)]; exact h2, h3⟩
  refine ⟨G1, x, dx, vs, i, ys, z, rfl, new_slt u1.gh nx ndx ne, r1, L2, hz, fun H2 G2 fr w2 => ⟨rfl, ?_⟩⟩
  obtain ⟨G3, k1, k2, k3, vs', k4, k5, k6⟩ := sl_freeze w2
  have hh : Ex H1 H2 := fun a o h => by
    have na : a ≠ x := ne_of_none h nx
    have nd : a ≠ dx := ne_of_none h ndx
    exact fr.fr a o (by rw [upd_ne na, upd_ne nd]; exact h) fun z => by simp [na, nd] at z
  have up : Up G1 H1 G3 H2 := ⟨fr.gg.trans k1, k2, hh, fun a h1 h2 => by
    have na : a ≠ x := fun z => by subst z; exact h1 nx
    have nd : a ≠ dx := fun z => by subst z; exact h1 ndx
    exact k3 a na nd (fr.nw a (by rw [upd_ne na, upd_ne nd]; exact h1) h2)⟩
  exact q _ H2 G3 (u1.trans up) ⟨x, dx, vs', rfl, k4, k5, k6⟩
theorem Lent.neS {x dx : Addr} (L : Lent G H l B ys) (w : Wd G H [(x, cN C dx), (dx, cOw x)]) : l ∉ [x, dx] := fun z => by
  obtain ⟨vs, h2, _⟩ := L.at_
  rcases List.mem_cons.mp z with rfl | z
  · obtain ⟨_, o, k2, k3⟩ := w.head
    rw [k2] at h2
    cases h2
    cases k3
  · rw [List.mem_singleton] at z
    subst z
    obtain ⟨_, o, k2, k3⟩ := w.tail.head
    rw [k2] at h2
    cases h2
    cases k3
/-! comprehensions over a lent list -/
def GoesL (J : It) (H1 G1 : Hp) (R : Rep α) (xs : List α) : Prop :=
  ∀ i H, Ex H1 H → (i = xs.length → J.stop i H) ∧ ∀ x, xs[i]? = some x → J.go i H ∧ ∀ v H', J.yld i H v H' → H' = H ∧ R.r G1 v x
def SrcL (wi : TI) (σ : L2.St) (G W : Hp) (R : Rep α) (m : Option (List α)) : Prop :=
  ∀ xs, m = some xs → ∀ H, Ex G H → Ex W H → ∀ k : It → Hp → Prop, (∀ J H1 G1, Up G H G1 H1 → GoesL J H1 G1 R xs → k J H1) → wi σ H k
theorem src_lent {xs : List α} {n : Nat} (L : Lent G W l R xs) (hi : σ[n]? = some (some (.ref l))) : SrcL (iList K (tVar n)) σ G W R (some xs) := fun xs' hx H e e' k q => by
  cases hx
  obtain ⟨us, h2, h3⟩ := L.at_
  refine ⟨.ref l, hi, l, rfl, ⟨us, Or.inl (Or.inl (e' _ _ h2))⟩, q _ H G (Up.refl e) fun i H' e1 => ⟨fun hi => ?_, fun x hx => ?_⟩⟩
  · subst hi; exact ⟨us, Or.inl (Or.inl (e1 _ _ (e' _ _ h2))), by rw [h3.length]; exact Nat.le_refl _⟩
  · obtain ⟨v, hv, r⟩ := pr_get h3 hx
    refine ⟨⟨us, v, Or.inl (Or.inl (e1 _ _ (e' _ _ h2))), hv⟩, fun w H2 y => ?_⟩
    obtain ⟨rfl, y⟩ := y
    have := y us (Or.inl (Or.inl (e1 _ _ (e' _ _ h2))))
    rw [hv] at this
    cases this
    exact ⟨rfl, r⟩
section
variable {γ : Type} {T : Rep γ} {wi : TI} {g : TG} {tt : TT}
/-- [e2 for x in xs if f1] -/
theorem el_lc1L {vs : List Nat} {m : Option (List α)} {f1 : α → Option Bool} {e2 : α → Option γ} {P : Hp → α → L2.St → L2.St → Prop}
    (h : SrcL wi σ G W R m) (hg : Tgt g R P) (hw : ∀ x G' σ2, P G' x (wipe σ vs) σ2 → wipe σ2 vs = wipe σ vs)
    (ht : ∀ x σ2 G' W', Ex G G' → Ex W W' → Ex G' W' → P G' x (wipe σ vs) σ2 → ET tt σ2 W' (f1 x))
    (he : ∀ x σ2 G' W', Ex G G' → Ex W W' → Ex G' W' → P G' x (wipe σ vs) σ2 → E te σ2 G' W' T (e2 x)) :
    EL (tLc wi g tt te vs) σ G W T (m >>= fun xs => lcS f1 e2 xs) := fun zs hz H e e' Q q => by
  obtain ⟨xs, hx, hz⟩ := bindS hz
  obtain ⟨hs, hz⟩ := lcS_ok hz
  refine h xs hx H e e' _ fun J H1 G1 u gs D hD => ?_
  have e1 : Ex W H1 := e'.trans u.hh
  refine ⟨fun i n H' => n = xs.length - i ∧ i ≤ xs.length ∧ ∃ G' acc ys rest, Acc G1 H1 T D G' H' acc ys ∧ lcM f1 e2 (xs.drop i) = some rest ∧ ys ++ rest = zs ∧ ys.length ≤ i, ⟨_, rfl, Nat.zero_le _, G1, [], [], zs, Acc.start u.gh hD, hz, rfl, Nat.le_refl _⟩, ?_⟩
  rintro i n H' ⟨rfl, hi', G', acc, ys, rest, A, hr, hzs, hyl⟩
  have gx := gs i H' A.u.hh
  by_cases hlt : i < xs.length
  · obtain ⟨x, hx⟩ : ∃ x, xs[i]? = some x := ⟨_, List.getElem?_eq_getElem hlt⟩
    obtain ⟨go, yl⟩ := gx.2 x hx
    rw [drop_at hx] at hr
    obtain ⟨b, hb, hr⟩ := bindS hr
    refine .inr ⟨go, fun H' => ∃ G' acc ys rest, Acc G1 H1 T D G' H' acc ys ∧ lcM f1 e2 (xs.drop (i + 1)) = some rest ∧ ys ++ rest = zs ∧ ys.length ≤ i + 1, fun H2 ⟨G2, a2, y2, r2, A2, k1, k2, k3⟩ => ⟨xs.length - (i + 1), by omega, rfl, hlt, G2, a2, y2, r2, A2, k1, k2, k3⟩, fun v H2 y => ?_⟩
    obtain ⟨rfl, r⟩ := yl v H2 y
    refine hg v x _ G' H2 _ A.u.gh (R.mono A.u.gg r) fun σ2 p => ⟨hw x G' σ2 p, ?_⟩
    refine ht x σ2 G' H2 (u.gg.trans A.u.gg) (e1.trans A.u.hh) A.u.gh p b hb H2 (Ex.refl _) _ fun H3 e3 => ?_
    have A := A.sc e3
    cases b with
    | false => exact ⟨G', acc, ys, rest, A, hr, hzs, by omega⟩
    | true =>
      obtain ⟨z, hz', hr⟩ := bindS hr
      obtain ⟨t, ht', hr⟩ := bindS hr
      cases hr
      show te σ2 H3 _
      refine he x σ2 G' H3 (u.gg.trans A.u.gg) (e1.trans A.u.hh) A.u.gh p z hz' H3 A.u.gh (Ex.refl _) _ fun w H8 G8 u8 r8 => ?_
      have A8 := A.up u8
      refine ⟨acc, A8.hd, ?_, G8, _, _, t, A8.add r8, ht', by rw [← hzs]; simp, by simp; omega⟩
      rw [A8.pr.length]
      refine sz_l (n := ys.length) (decide_eq_true ?_)
      have h9 := of_decide_eq_true hs
      omega
  · have ei : i = xs.length := by omega
    subst ei
    rw [List.drop_length] at hr
    cases hr
    rw [List.append_nil] at hzs
    subst hzs
    obtain ⟨G9, k1, k2, k3⟩ := A.fin
    exact .inl ⟨gx.1 rfl, q D H' G9 (fresh_back u.hh k1) (u.trans k2) k3⟩
end
/-! what is never reached -/
end
end Sim

/-! for .. in zip(tuple, tuple) -/
namespace Sim
open PySem L2 Evl
section
variable {K : PySem.W.Frag} {σ : L2.St} {G0 H0 G H W : Hp} {ls : List Addr} {cs : Cs} {ta : TA} {α β : Type} {R : Rep α} {S : Rep β} {D : Ends} {tu tz : TS} {g : TG}
/-! displays of lists, sums of lists, opened -/
end
end Sim

/-! an object called: x(..), x of an own class with __call__ -/
namespace PySem.W
open PySem PySem.Spec PySem.Calls PyProof.Rows
theorem kcoX_callWith {M : Model} {A : Around} {E : Value → Shared → Prop} {s : Shared} {env : Env} {pos : Pos} {x C : Addr} {ox : Obj} {first : List Value} {Q : Value → Shared → Prop} {e : Expr} {rest : List Expr} (hd : ox.data = .plain)
    (h : wpAny M A (spliced (backTo pos (starEach (e :: rest) env))) (fun vs s₁ => (∃ od, InstAt s₁.heap x ox C od) ∧ wpAny M A (call (.ref x) (first ++ vs)) Q E s₁) E s)
    (he : starEach (e :: rest) env = (false, eval e env) :: starEach rest env := by rfl) (hpl : (backTo pos (starEach rest env)).any (·.1) = false := by rfl) :
    wpAny M A (callWith pos (.ref x) first (backTo pos (starEach (e :: rest) env)) []) Q E s := by
  rw [he] at h ⊢
  have hplain : ((backTo pos ((false, eval e env) :: starEach rest env)).any (·.1) || ([] : List (Option Str × Sem Value)).any (·.1.isNone)) = false := by
    show ((false || (backTo pos (starEach rest env)).any (·.1)) || false) = false
    rw [hpl]; rfl
  have h : wpAny M A (evalArgs (.ref x) true (backTo pos ((false, eval e env) :: starEach rest env)) []) (fun a s₁ => (∃ od, InstAt s₁.heap x ox C od) ∧ wpAny M A (call (.ref x) (first ++ a.pos) a.kw) Q E s₁) E s := evalArgs_plain h
  unfold callWith
  refine wpAny_bind (wpAny_holding (wpAny_mono h (fun a s₁ h₁ => wpAny_bind (wpAny_standAt ?_)) fun _ _ y => y))
  obtain ⟨⟨od, I⟩, h₁⟩ := h₁
  have L := kco_keeper (M := M) I hd
  simp only [hplain]
  refine wpAny_bind (L.here ?_)
  have tail : ∀ {t : Sem Value}, wpAny M A t Q E s₁ → wpAny M A (t >>= fun r => holding [r] point >>= fun _ => pure r) Q E s₁ :=
    fun ht => wpAny_bind (wpAny_mono ht (fun r s₂ hr => wpAny_bind (wpAny_holding (wpAny_point (wpAny_pure hr)))) fun _ _ y => y)
  exact tail (wpAny_operateT h₁)
end PySem.W
namespace L2
open PySem PySem.Spec PyProof.Rows
section
variable {X : Cx} {CX : CXT} {k i : Nat} {f C : Addr} {fd : FuncData} {ps : List Str} {sp : Sp} {E : St → XK} {x : Str} {p pos : Pos} {e : Expr} {es : List Expr} {t : TA}
end
end L2

set_option maxHeartbeats 4000000
/-! own classes: an __init__ whose first statement is super().__init__(..), over an own class's __init__ -/
namespace Sim
open PySem PySem.Spec PyProof.Rows L2 PySem.W PySem.Calls NdefX
section
variable {CX : CXT} {P : Program} {w : World} {K : PySem.W.Frag} {mg : Str → Option Value} {base : Heap} {N ps psg : List Str} {F : NF} {C D f g : Addr} {fd fdg : FuncData} {k : Nat} {sp spg : Sp} {e : Expr} {es : List Expr} {rest : List Stmt} {p0 p1 p2 p3 p4 : Pos} {pl : Sem Bool}
theorem fn_sup (S : NScope N ps ["__class__"] F.scope) {dvs : List V} (Y : SupP P K mg D C f g fd F ps dvs) (G : FnOk P w K mg base CX0 k g fdg psg spg) (bg : Binds K fdg psg [])
    (hbd : F.body = .Expr (.Call (.Attribute (.Call (.Name "super" p0) [] [] p1) "__init__" p2) (e :: es) [] p3) p4 :: rest)
    (hev : ∀ L : Addr, eval (.Call (.Attribute (.Call (.Name "super" p0) [] [] p1) "__init__" p2) (e :: es) [] p3) (envF F f L) = (do
      let ov ← attributeBase (.Call (.Name "super" p0) [] [] p1) "__init__" (envF F f L) (eval (.Call (.Name "super" p0) [] [] p1) (envF F f L))
      standAt p2.atName
      let (g, first) ← holding [ov] (getMethod ov "__init__" pl)
      callWith p3 g first (backTo p3 (starEach (e :: es) (envF F f L))) []))
    (hint : ∀ L : Addr, interactive (envF F f L) = false)
    (hst : ∀ L : Addr, starEach (e :: es) (envF F f L) = (false, eval e (envF F f L)) :: starEach es (envF F f L))
    (hpl : ∀ L : Addr, (backTo p3 (starEach es (envF F f L))).any (·.1) = false)
    (len : ∀ vs H Q E, sp vs H Q E → vs.length = ps.length)
    (hbody : ∀ (A : Around) (outer : List Env) (s : Shared) (H : Hp) (vs : List V) (Q : VK) (E : XK), Room k (A.deeper (envF F f s.heap.objs.size)) → sp vs H Q E →
      ∃ a vs' dx fs, vs = .ref a :: vs' ∧ H a = some (.ins C dx fs) ∧ ∃ t tt, PA (ncx CX P w K mg base N F f A outer s H E) (e :: es) t ∧ PSs (ncx CX P w K mg base N F f A outer s H E) rest tt ∧
        t (startF N vs [none]) H fun ws H1 => spg (.ref a :: ws) H1 (fun _ H2 => tt { nx := fun _ H' => Q .non H', rt := Q } (startF N vs [none]) H2) E0) :
    FnOk P w K mg base CX (k + 1) f fd ps sp := by
  obtain ⟨oc, od, osl, dV, kV, doc, pm, an, ct, rfl, lk, _⟩ := Y.lk
  refine ⟨len, fun A outer s H args us vs Q E hr e0 hb r hsp => ?_⟩
  have hl := len _ _ _ _ hsp
  have KX : K.In s.heap := e0.mod.kin.keeps fun b o e => (e0.bs b o e).1
  have lim : s.heap.NoLimit := e0.mod.nolimit.keeps fun b o e => (e0.bs b o e).1
  refine codeAny_call_function hr.depth (KX _ _ lk) rfl S.co S.gen rfl (PySem.W.codeRec_of KX Y.cd) (hb _ _ _ _ ?_)
  refine wpAny_newFunctionEnv S.nocell (fun ⟨n, _⟩ hy => S.par n (List.of_mem_zip hy).1) (fun h₁ hns hsb => ⟨lim.fresh _ hsb, ?_⟩) S.kind
  show codeAny _ _ (.func F.body (envF F f s.heap.objs.size)) _ _
  have kp : ∀ b o, s.heap.get? b = some o → h₁.get? b = some o := fun b o e => hsb.extBut b o (Nat.ne_of_lt (Heap.lt_size e)) (Heap.get?_push_of_some _ e)
  obtain ⟨a, vs', dxa, fsa, rfl, ea, ta, tt, hta, ht, hq⟩ := hbody A outer s H vs Q E (hr.deeper _) hsp
  obtain ⟨cc, kc0, kc1, kc2, hcl, hcc⟩ := Y.cl
  have ccb : base.get? cc = some ⟨kc0, kc1, .cell (some (.ref D)), kc2⟩ := e0.mod.kin _ _ hcc
  have CA : CellsAt F.cl ["__class__"] [none] s.heap H := by
    rw [hcl]
    have look : ∀ y c, ([(("__class__" : Str), cc)] : List (Str × Addr)).lookup y = some c → y = "__class__" ∧ c = cc := fun y c e => by
      rw [List.lookup_cons] at e
      cases h : (y == ("__class__" : Str)) with
      | true => rw [h] at e; cases e; exact ⟨eq_of_beq h, rfl⟩
      | false => rw [h] at e; cases e
    refine ⟨rfl, fun y c e => ?_, fun x y c e1 e2 => ?_, fun i y e => ?_⟩
    · obtain ⟨_, rfl⟩ := look y c e
      exact ⟨(e0.bs _ _ ccb).2, _, ⟨_, (e0.bs _ _ ccb).1, rfl⟩⟩
    · rw [(look x c e1).1, (look y c e2).1]
    · cases i with
      | zero =>
        cases e
        exact ⟨cc, by rfl, fun v e => by cases e⟩
      | succ i => cases e
  have I : Inv (ncx CX P w K mg base N F f A outer s H E) [] (startF N (.ref a :: vs') [none]) H { s with heap := h₁, toks := s.toks + (ps.zip us).length } := inv_startN S hr.hd e0 hl r CA hns kp
  refine ks_codeAny_funcAt ?_
  have fin : ∀ {σ' : L2.St} {H' : Hp} {v : V} {u : Value} {s' : Shared}, Inv (ncx CX P w K mg base N F f A outer s H E) [] σ' H' s' → RelV v u → Q v H' → CE outer P w H s Q u s' :=
    fun {σ' H' v u s'} J rv q => ⟨v, H', J.os, J.bare, J.base, J.hok, rv, q⟩
  have tail : ∀ (s1 : Shared) (H2 : Hp), Inv (ncx CX P w K mg base N F f A outer s H E) [] (startF N (.ref a :: vs') [none]) H2 s1 → tt { nx := fun _ H' => Q .non H', rt := Q } (startF N (.ref a :: vs') [none]) H2 →
      _root_.PySem.wpAt (model P w) (A.deeper (envF F f s.heap.objs.size)) (.func F.body (envF F f s.heap.objs.size)) (execs rest (envF F f s.heap.objs.size)) (fun f s' => CR CX outer P w H s Q E (.ok (.ret (match f with | .ret v => v | _ => .none))) s')
        (fun e s' => wpAny (model P w) (A.deeper (envF F f s.heap.objs.size)) (leaving (envF F f s.heap.objs.size) e) (fun _ s'' => CR CX outer P w H s Q E (.error e) s'') (fun e' s'' => CR CX outer P w H s Q E (.error e') s'') s') s1 := by
    intro s1 H2 I1 hq2
    refine wpAt_of_wpAny (wpAny_mono (ht.run [] _ (startF N (.ref a :: vs') [none]) H2 _ I1 hq2) (fun fl s' hs => ?_) fun e s' hs => hs)
    cases fl with
    | ret u =>
      obtain ⟨v, σ', H', J, rv, q⟩ := hs
      exact fin J rv q
    | next =>
      obtain ⟨σ', H', J, q⟩ := hs
      exact fin (v := V.non) (u := Value.none) J rfl q
    | brk =>
      obtain ⟨_, _, _, q⟩ := hs
      exact False.elim q
    | cont =>
      obtain ⟨_, _, _, q⟩ := hs
      exact False.elim q
  rw [hbd]
  rw [← hbd]
  refine (congrArg (fun z => _root_.PySem.wpAt (model P w) (A.deeper (envF F f s.heap.objs.size)) (.func F.body (envF F f s.heap.objs.size)) (execs z (envF F f s.heap.objs.size)) _ _ _) hbd).mpr ?_
  refine ks_wpAt_execs_cons (ks_wpAt_Expr_any (ks_wpAt_MethodCall ?_ (hev _)) (hint _))
  obtain ⟨ar, ps', hp, hps, hka⟩ := Y.par
  have hka := hka.resolve_right fun z => S.nocell _ (PySem.mem_of_lookup z) rfl
  obtain ⟨ccl, cdd, cvs, ccs, file, tf, hcode, hvs, hfile⟩ := Y.code
  obtain ⟨cdD, hD⟩ := Y.cls
  obtain ⟨oD, hD1, hD2⟩ : ∃ oD, h₁.get? D = some oD ∧ oD.data = .cls cdD := by
    unfold clsIn at hD
    split at hD
    · rename_i c d cd' sl ho
      cases hD
      exact ⟨_, I.kIn _ _ ho, rfl⟩
    · cases hD
  obtain ⟨mA, J, _⟩ := ins_get I.hok ea
  obtain ⟨oda, J, _⟩ := J.look
  have ho := J.at_
  obtain ⟨mb, hb1, hb2⟩ := I.mod.blt
  have hboot : bootBuiltins "super" = some (.type "super") := by kernel_rfl
  refine ks_wpAt_super_base (env := envF F f s.heap.objs.size) (fd := PySem.W.fnX F.name F.qual F.params F.body F.scope F.cl dV kV doc pm an (.ref F.c) ct) Y.ks Y.kc (by decide) rfl (I.kIn _ _ lk) rfl hp rfl (I.kIn _ _ hcode) rfl hvs hfile Y.top ?_
  refine ks_loadName_global S.kind Y.ks (loadGlobal_builtin (env := envF F f s.heap.objs.size) (I.mod.glob.keeps I.bk) Y.mg (hb1.keeps I.bk) ((hb2 _ (by decide)).trans hboot) ⟨rfl, ?_⟩)
  refine wpAny_loadName_free S.kind Y.kc (show List.lookup ("__class__" : Str) F.cl = some cc by rw [hcl]; rfl) ⟨_, I.kIn _ _ hcc, rfl⟩ ?_
  have hself : (ps.zip us).reverse.lookup ar.arg = some (.ref a) := by
    have ndP : ps.Nodup := by
      have q := S.nd.sublist (List.take_sublist (ps.length + [("__class__" : Str)].length) N)
      rw [S.pre] at q
      exact (List.nodup_append.mp q).1
    cases r with
    | cons rx rr =>
      cases rx
      exact zip_look (i := 0) ndP (by rw [hps]; rfl) rfl
  refine wpAny_loadName_local S.kind hka hns hself ?_
  refine ks_wpAny_isType_cls hD1 hD2 ⟨rfl, ?_⟩
  refine ks_wpAny_call_super hD1 hD2 ho J.cls (fun c e => by
    have := J.no
    unfold notCls at this
    rw [e] at this
    exact Bool.noConfusion this) (looks_mroIn I.kIn Y.sub) (fun h2 e2 k2 => ?_)
  have I2 := I.kept (t' := s.toks + (ps.zip us).length) (h' := h2) k2
  obtain ⟨mA2, J2, _⟩ := ins_get I2.hok ea
  obtain ⟨oda2, J2, _⟩ := J2.look
  obtain ⟨cdC, hC⟩ := Y.clsC
  have hsu := Y.sup
  unfold ks_superIn at hsu
  rw [hC] at hsu
  obtain ⟨og, hg1, hg2⟩ : ∃ og, h2.get? g = some og ∧ og.cls = .type "function" := by
    have ht' : (K.lookup g).map (·.cls) = some (.type "function") := Y.gt
    cases z : K.lookup g with
    | none => rw [z] at ht'; cases ht'
    | some og => rw [z] at ht'; exact ⟨og, I2.kIn _ _ z, Option.some.inj ht'⟩
  refine ks_wpAny_getMethod_super e2 (looks_opaque I2.kIn Y.opq) (l₀ := cdC.mro) (fun A Q E s k q => wpAny_bind ((looks_clsIn I2.kIn hC) A _ E s k (wpAny_pure q))) rfl I2.kIn hsu hg1 hg2 (ks_ne I2.kIn J2 hC) (by decide) ?_
  have I3 := ClX.met_new (g := g) (C := a) I2
  refine ClX.callwith_cm I3 (ClX.base_none I2 (Nat.le_refl _)) Y.gf (thn (hta.run p3 _ _ _ H _ I3 hq) fun us2 s3 ⟨ws, H3, I4, rv, q2⟩ => ⟨⟨ClX.pin_at I4, I4.kIn⟩, ?_⟩) (hst _) (hpl _)
  have FR : FnR P w K mg base CX0 k g spg := fnR_of (X := ncx CX P w K mg base N F f A outer s H E) G bg
  refine thn (ClX.run_cm (E := E0) FR (hr.deeper _) pass0 I4 rv q2) fun u s4 hu => ?_
  obtain ⟨v, H4, I5, _, q5⟩ := hu
  exact tail _ _ I5 q5
end
end Sim

/-! askers: objects whose field `asks` holds a list that is changed; that list is a cell of the caller -/
namespace Sim
open PySem L2 Evl
section
variable {K : PySem.W.Frag} {C : Addr} {σ : L2.St} {G0 H0 G H G2 H2 W : Hp} {ls : List Addr} {cs : Cs} {l : Addr} {ta : TA} {te : TE} {X : XK} {α β κ ι : Type} {R : Rep α} {S : Rep β} {T : Rep α} {B : Rep κ} {A : AR ι} {D : Ends} {tz : TS} {ns : List Str}
/-- a call that may raise, and may change the list at ad i -/
def PXA (K : PySem.W.Frag) (A : AR ι) (ad : ι → Addr) (B : Rep κ) (T : Rep α) (f : ι → List κ → Option ((Xn ⊕ α) × List κ)) : Sp := fun vs H Q E => ∃ G i ys r ys', A.r G vs i ∧ Wd G H [(ad i, cL B ys)] ∧ f i ys = some (r, ys') ∧
  (∀ e, r = .inl e → ∀ d H2 G2, Fr G H G2 H2 [ad i] → Wd G2 H2 [(ad i, cL B ys')] → Xat G2 e d → E (.ref (He.ga K e.cls)) (some d) H2) ∧
  (∀ x, r = .inr x → ∀ v H2 G2, Fr G H G2 H2 [ad i] → Wd G2 H2 [(ad i, cL B ys')] → T.r G2 v x → Q v H2)
theorem c_pxa {ad : ι → Addr} {f : ι → List κ → Option ((Xn ⊕ α) × List κ)} {vs : List V} {j : Nat} {i : ι} {ys ys' : List κ} {r : Xn ⊕ α} {Q : VK} {E : XK} (w : Wo G0 H0 ls G H cs) (hc : cs[j]? = some (ad i, cL B ys)) (hv : A.r G vs i) (hz : f i ys = some (r, ys'))
    (kx : ∀ e, r = .inl e → ∀ d H2 G2, Wo G0 H0 ls G2 H2 (cs.set j (ad i, cL B ys')) → Ex G G2 → Xat G2 e d → E (.ref (He.ga K e.cls)) (some d) H2)
    (k : ∀ x, r = .inr x → ∀ v H2 G2, Wo G0 H0 ls G2 H2 (cs.set j (ad i, cL B ys')) → Ex G G2 → T.r G2 v x → Q v H2) : PXA K A ad B T f vs H Q E :=
  ⟨G, i, ys, r, ys', hv, w.sub1 hc, hz, fun e he d H2 G2 fr w2 xa => kx e he d H2 G2 (w.call1 hc fr w2) fr.gg xa, fun x hx v H2 G2 fr w2 rr => k x hx v H2 G2 (w.call1 hc fr w2) fr.gg rr⟩
/-- the making of such an object: the list is new -/
def PIA (C : Addr) (A : AR ι) (B : Rep κ) (ns : List Str) (fl : Addr → α → List Pd) (f : ι → Option α) : Sp := fun vs H Q _ => ∃ G x ws i o, vs = .ref x :: ws ∧ Wd G H [(x, cI C [] [])] ∧ A.r G ws i ∧ f i = some o ∧
  ∀ H2 G2 p, H p = none → Fr G H G2 H2 [x] → Wd G2 H2 [(p, cL B []), (x, cI C ns (fl p o))] → Q .non H2
/-- self.f = [], a new field that holds a new list -/
theorem x_fldL {i j : Nat} {f : Str} {m : Option (List κ)} {xs : List κ} {ps : List Pd} (w : Wo G0 H0 ls G H cs) (hc : cs[j]? = some (l, cI C ns ps)) (hi : σ[i]? = some (some (.ref l))) (h : EL te σ G H B m) (hm : m = some xs) (hC : Cls K C) (hn : NoAttr K C f) (hz : ns.length < 1000) (hf : ns.contains f = false)
    (k : ∀ p H2 G2, H0 p = none → Wo G0 H0 ls G2 H2 ((p, cL B xs) :: cs.set j (l, cI C (ns ++ [f]) (ps ++ [pd rA p]))) → Ex G G2 → tz D σ H2) : tSeq (sFld K (tVar i) te f) tz D σ H := by
  refine c_l (Q := fun y H1 => tVar i σ H1 fun x H2 => ∃ a C dx fs, x = .ref a ∧ H2 a = some (.ins C dx fs) ∧ Cls K C ∧ NoAttr K C f ∧ fs.length < 1000 ∧ tz D σ (upd H2 a (.ins C dx (putF f y fs)))) w h hm fun p H2 G2 n0 w2 e => ?_
  obtain ⟨_, o3, k2, dx, fs, rfl, k3⟩ := w2.w.getAt (i := j + 1) hc
  refine ⟨.ref l, hi, l, C, dx, fs, rfl, k2, hC, hn, by rw [← List.length_map (f := (·.1)), k3.1]; exact hz, ?_⟩
  rw [putF_new (by rw [k3.1]; exact hf)]
  refine k p _ _ n0 (w2.writeAt (i := j + 1) hc ⟨dx, _, rfl, ?_, ?_⟩) e
  · rw [List.map_append, k3.1]; rfl
  · rw [List.map_append]; exact pr_app k3.2 (.cons rfl .nil)
end
end Sim

/-! the hook with an __init__ that calls super().__init__ of an own class -/
namespace Sim
section
open PySem PySem.Spec PyProof.Rows L2 PySem.W PySem.Calls NdefX
end
open PySem PySem.Spec PyProof.Rows L2 Evl
section
variable {fa : List He.Fa} {fn : List He.DefD} {es : List (PySem.W.Frag → Bool)} {xs : List XcD} {gs : List GeD} {sp : List SpD} {file : Str} {K : PySem.W.Frag} {mg : Str → Option Value}
theorem TxZ.mk' {h : Heap} (KX : K.In h) (G : h.Ns mainGlobals mg) (c : SaysZ fa fn es xs gs sp file K) : TxZ fa fn es xs gs sp file K mg := ⟨TxX.mk' KX G c.s, c.o, c.v⟩
theorem TxZ.spd (T : TxZ fa fn es xs gs sp file K mg) (i : Nat) {d : SpD} (h : sp[i]? = some d) : fnY K d.cls = d.val ∧ d.ok K file = true := by
  have e2 : (sp.map fun d => fnY K d.cls)[i]? = (sp.map SpD.val)[i]? := by rw [T.sv]
  rw [List.getElem?_map, List.getElem?_map, h] at e2
  exact ⟨Option.some.inj e2, List.all_eq_true.mp T.so d (List.mem_of_getElem? h)⟩
end
end Sim

/-! askers: calls that read the lent list and may raise; loops over a lent list that an expression gives -/
namespace Sim
open PySem L2 Evl
section
variable {K : PySem.W.Frag} {C : Addr} {σ : L2.St} {G0 H0 G H G2 H2 W : Hp} {ls : List Addr} {cs : Cs} {l : Addr} {ta : TA} {X : XK} {te to tl : TE} {α β κ ι γ : Type} {R : Rep α} {S : Rep β} {T : Rep γ} {B : Rep κ} {A : AR ι} {D : Ends} {tz tu : TS} {g : TG} {ns : List Str} {fl : α → List Pd}
/-- reads the list at ad i, may raise -/
def PXB (K : PySem.W.Frag) (A : AR ι) (ad : ι → Addr) (B : Rep κ) (T : Rep γ) (f : List κ → ι → Option (Xn ⊕ γ)) : Sp := fun vs H Q E => ∃ G i ys r, Ex G H ∧ A.r G vs i ∧ Lent G H (ad i) B ys ∧ f ys i = some r ∧
  (∀ e, r = .inl e → ∀ d H2 G2, Up G H G2 H2 → Xat G2 e d → E (.ref (He.ga K e.cls)) (some d) H2) ∧ (∀ x, r = .inr x → ∀ v H2 G2, Up G H G2 H2 → T.r G2 v x → Q v H2)
/-- o.m(..) of such a def -/
theorem ex_methB {m : Option α} {mi : Option ι} {me : Str} {ad : α × ι → Addr} {f : List κ → α × ι → Option (Xn ⊕ γ)} {ys : List κ} {Wx : L2.St → XK} (h : E to σ G W (rObj C ns fl) m) (ha : EA ta σ G W A mi) (L : Lent G W l B ys) (hl : ∀ o i, m = some o → mi = some i → ad (o, i) = l) (hi : ns.contains me = false) :
    EX K (tMethT C me (PXB K (aC (rObj C ns fl) A) ad B T f) Wx to ta) σ G W T (m >>= fun o => mi >>= fun i => f ys (o, i)) (Wx σ) := fun z hz H e e' Q qx q => by
  obtain ⟨x, hx, hz⟩ := bindS hz
  obtain ⟨y, hy, hz⟩ := bindS hz
  refine h x hx H e e' _ fun v H1 G1 u r => ?_
  obtain ⟨a, dx, fs, rfl, h2, h3⟩ := r
  refine ⟨a, dx, fs, rfl, u.gh a _ h2, look_no h3.1 hi, ?_⟩
  refine (ha.mono u.gg (e'.trans u.hh)) y hy H1 u.gh (Ex.refl _) _ fun vs H3 G3 u3 r3 => ?_
  have := hl x y hx hy
  subst this
  exact ⟨G3, (x, y), ys, z, u3.gh, ⟨.ref a, vs, rfl, ⟨a, dx, fs, rfl, u3.gg a _ h2, h3.mono u3.gg⟩, r3⟩, (L.up e' u).up (Ex.refl _) u3, hz, fun x hx d H4 G4 u4 r4 => qx x hx d H4 G4 ((u.trans u3).trans u4) r4, fun x hx v H4 G4 u4 r4 => q x hx v H4 G4 ((u.trans u3).trans u4) r4⟩
/-- for .. in o.f, the list there lent -/
theorem x_forNE {xs : List α} {R : Rep α} (w : Wo G0 H0 [] G H []) (L : Lent G0 H0 l R xs) (he : E tl σ G H rA (some l)) (P : Nat → Hp → Hp → L2.St → Prop) (hP : ∀ i G' H' σ', P i G' H' σ' → Wo G0 H0 [] G' H' [])
    (h0 : ∀ G' H', Wo G0 H0 [] G' H' [] → Ex G G' → P 0 G' H' σ)
    (hs : ∀ i x v σ' G' H', xs[i]? = some x → P i G' H' σ' → R.r G' v x → g v σ' H' fun σ2 H2 => tu { D with nx := fun σ' H' => ∃ G', P (i + 1) G' H' σ', ct := fun σ' H' => ∃ G', P (i + 1) G' H' σ', bk := tz D } σ2 H2)
    (hd : ∀ σ' G' H', P xs.length G' H' σ' → tz D σ' H') : tSeq (tFor (iList K tl) g tu) tz D σ H := by
  obtain ⟨vs, h2, h3⟩ := L.at_
  refine he l rfl H w.ex (Ex.refl _) _ fun v H1 G1 u r => ?_
  cases r
  have w1 := w.up u
  refine ⟨l, rfl, ⟨vs, Or.inl (Or.inl (w1.f.fr _ _ h2 List.not_mem_nil))⟩, for_list (K := K) (a := l) (xs := vs) (D := { D with nx := tz D }) (fun i σ' H' => ∃ G', P i G' H' σ') ⟨G1, h0 G1 H1 w1 u.gg⟩ ?_ ?_ ?_⟩
  · rintro i σ' H' _ ⟨G', p⟩
    exact Or.inl (Or.inl ((hP _ _ _ _ p).f.fr _ _ h2 List.not_mem_nil))
  · rintro i y σ' H' hy ⟨G', p⟩
    obtain ⟨x, hx, r⟩ := pr_get' h3 hy
    exact hs i x y σ' G' H' hx p (R.mono (hP _ _ _ _ p).f.gg r)
  · rintro σ' H' ⟨G', p⟩
    rw [h3.length] at p
    exact hd σ' G' H' p
/-- the lent list as a cell of the def's own -/
theorem Wo.own1 {ys : List κ} (w : Wo G0 H0 [] G H []) (L : Lent G0 H0 l B ys) : Wo G0 H0 [l] G H [(l, cL B ys)] := by
  have L1 := w.lentOf L List.not_mem_nil
  obtain ⟨vs, h2, h3⟩ := L1.at_
  refine ⟨⟨w.ex, fun c hc => ?_, List.nodup_cons.mpr ⟨List.not_mem_nil, List.nodup_nil⟩⟩, ⟨w.f.gg, fun a o h _ => w.f.fr a o h List.not_mem_nil, w.f.nw, w.f.st⟩, fun c hc => ?_⟩
  · rw [List.mem_singleton.mp hc]
    exact ⟨L1.n, _, h2, vs, rfl, h3⟩
  · rw [List.mem_singleton.mp hc]
    exact .inl (List.mem_singleton.mpr rfl)
/-- e.append(..), e an expression that gives the list's place -/
theorem x_appE {j : Nat} {m : Option α} {x : α} {xs : List α} {R : Rep α} (w : Wo G0 H0 ls G H cs) (hc : cs[j]? = some (l, cL R xs)) (hs : sz xs.length = true) (ho : E to σ G H rA (some l)) (h : E te σ G H R m) (hm : m = some x)
    (k : ∀ H2 G2, Wo G0 H0 ls G2 H2 (cs.set j (l, cL R (xs ++ [x]))) → Ex G G2 → tz D σ H2) : tSeq (tDrop (tBM K "list" rAppend to (tCons te tNil))) tz D σ H := by
  refine ho l rfl H w.ex (Ex.refl _) _ fun v H1 G1 u r => ?_
  cases r
  have w1 := w.up u
  obtain ⟨_, o, h2, vs, rfl, h3⟩ := w1.w.getAt hc
  refine ⟨.inl ⟨rfl, vs, Or.inl (Or.inl h2)⟩, c_e (Q := fun x H1 => rAppend (.ref l) [x] H1 fun _ H3 => tz D σ H3) w1 (h.mono u.gg u.hh) hm fun v H3 G3 w3 e r => ?_⟩
  obtain ⟨_, o3, k2, vs3, rfl, k3⟩ := w3.w.getAt hc
  refine ⟨l, vs3, v, rfl, rfl, k2, by rw [k3.length]; exact sz_l hs, k _ _ (w3.writeAt hc ⟨vs3 ++ [v], rfl, pr_app k3 (.cons r .nil)⟩) (u.gg.trans e)⟩
/-! ### tests, opened -/
end
end Sim

/-! askers handed to defs; parts of mixed data -/
namespace Sim
open PySem L2 Evl
section
variable {K : PySem.W.Frag} {C : Addr} {σ : L2.St} {G0 H0 G H G2 H2 W : Hp} {ls : List Addr} {cs : Cs} {l : Addr} {ta : TA} {X : XK} {te to tl : TE} {α β κ ι γ : Type} {R : Rep α} {S : Rep β} {T : Rep γ} {B : Rep κ} {A : AR ι} {D : Ends} {tz tu : TS}
/-! mixed data -/
end
theorem eqm_ok {C D m : Str} {K : PySem.W.Frag} (h : eqmB C D m K = true) : He.ma K (He.ga K C) m = He.ma K (He.ga K D) m := of_decide_eq_true h
theorem fnm_ok {C m : Str} {K : PySem.W.Frag} (h : fnmB C m K = true) : PySem.W.fnIn K (He.ma K (He.ga K C) m) = true := h
end Sim

/-! a field written again -/
namespace Sim
open PySem L2 Evl
theorem putF_at {f : Str} {v : V} : ∀ {fs : List (Str × V)} {n : Nat}, (fs.map (·.1)).findIdx? (fun x => x == f) = some n → (putF f v fs).map (·.1) = fs.map (·.1) ∧ (putF f v fs).map (·.2) = (fs.map (·.2)).set n v
  | [], n, h => by simp at h
  | (g, x) :: r, n, h => by
    rw [List.map_cons, List.findIdx?_cons] at h
    by_cases e : g = f
    · have hb : (g == f) = true := by rw [e]; simp
      rw [if_pos hb] at h
      cases h
      unfold putF
      rw [if_pos e]
      exact ⟨rfl, rfl⟩
    · have hb : ¬ ((g == f) = true) := by simpa using e
      rw [if_neg hb] at h
      obtain ⟨m, hm, rfl⟩ := Option.map_eq_some_iff.mp h
      obtain ⟨h1, h2⟩ := putF_at (v := v) hm
      unfold putF
      rw [if_neg e, List.map_cons, List.map_cons, List.map_cons, List.map_cons, h1, h2]
      exact ⟨rfl, rfl⟩
theorem pr_setP {P : V → Pd → Prop} {v : V} {x : Pd} (h : P v x) : ∀ {vs : List V} {xs : List Pd} {n : Nat}, Paired P vs xs → Paired P (vs.set n v) (xs.set n x)
  | _, _, _, .nil => .nil
  | _, _, 0, .cons _ t => .cons h t
  | _, _, n + 1, .cons h' t => .cons h' (pr_setP h t)
section
variable {K : PySem.W.Frag} {C : Addr} {σ : L2.St} {G0 H0 G H : Hp} {ls : List Addr} {cs : Cs} {l : Addr} {te : TE} {β : Type} {S : Rep β} {D : Ends} {tz : TS} {ns : List Str}
/-- self.f = e, f there already -/
theorem x_fldU {i j n : Nat} {f : Str} {m : Option β} {x : β} {ps : List Pd} (w : Wo G0 H0 ls G H cs) (hc : cs[j]? = some (l, cI C ns ps)) (hi : σ[i]? = some (some (.ref l))) (h : E te σ G H S m) (hm : m = some x) (hC : Cls K C) (hn : NoAttr K C f) (hf : ns.findIdx? (fun x => x == f) = some n) (hs : ns.length < 1000)
    (k : ∀ H2 G2, Wo G0 H0 ls G2 H2 (cs.set j (l, cI C ns (ps.set n (pd S x)))) → Ex G G2 → tz D σ H2) : tSeq (sFld K (tVar i) te f) tz D σ H :=
  h x hm H w.ex (Ex.refl _) (fun y H1 => tVar i σ H1 fun x H2 => ∃ a C dx fs, x = .ref a ∧ H2 a = some (.ins C dx fs) ∧ Cls K C ∧ NoAttr K C f ∧ fs.length < 1000 ∧ tz D σ (upd H2 a (.ins C dx (putF f y fs)))) fun v H3 G3 u r => by
    have w3 := w.up u
    obtain ⟨_, o3, k2, dx, fs, rfl, k3⟩ := w3.w.getAt hc
    refine ⟨.ref l, hi, l, C, dx, fs, rfl, k2, hC, hn, by rw [← List.length_map (f := (·.1)), k3.1]; exact hs, ?_⟩
    obtain ⟨q1, q2⟩ := putF_at (f := f) (v := v) (fs := fs) (n := n) (by rw [k3.1]; exact hf)
    refine k _ _ (w3.writeAt hc ⟨dx, _, rfl, ?_, ?_⟩) u.gg
    · rw [q1, k3.1]
    · rw [q2]; exact pr_setP (by exact r) k3.2
end
end Sim

/-! cells of any kind, lent to a def that only reads them -/
namespace Sim
open PySem L2 Evl
section
variable {σ : L2.St} {G0 H0 G H G1 H1 W : Hp} {ls : List Addr} {cs : Cs} {l : Addr} {cp0 : CP} {te : TE} {α β : Type} {R : Rep α} {S : Rep β} {cp : β → CP}
variable {K : PySem.W.Frag} {C : Addr} {ta : TA} {X : XK} {κ ι δ γ : Type} {A : AR ι} {B : Rep κ} {D : Ends} {tz : TS} {ns : List Str}
/-! dict(d), d a dict -/
abbrev rDcD : List V → Hp → VK → Prop := fun xs H Q => ∃ (a : Addr) (kvs : List (Key × V)), xs = [.ref a] ∧ Rd H a (.dK kvs) ∧ ∀ p, H p = none → Q (.ref p) (upd H p (.dK kvs))
theorem ec_dictM {kf : κ → Key} {td : TE} {m : Option (List (κ × α))} (h : E td σ G W (rM kf R) m) : EC (tCB rDcD (tCons td tNil)) σ G W (cM kf R) m := fun x hx H e e' Q q => by
  refine h x hx H e e' _ fun v H1 G1 u r => ?_
  obtain ⟨a, ws, rfl, h2, h3⟩ := r
  refine ⟨a, ws, rfl, .inl (u.gh a _ h2), fun p hp => ?_⟩
  have hp1 : G1 p = none := fresh_back u.gh hp
  refine q p _ G1 (fresh_back u.hh hp) (u.trans (up_new u.gh hp)) ⟨u.gh.trans (Ex.new hp), fun c hc => ?_, List.nodup_cons.mpr ⟨List.not_mem_nil, List.nodup_nil⟩⟩
  rw [List.mem_singleton.mp hc]
  exact ⟨hp1, _, upd_same, ws, rfl, h3⟩
end
end Sim

/-! TableAsker: an __init__ with a default; arguments read at the heap itself -/
namespace Sim
open PySem PySem.Spec PyProof.Rows L2 Evl
theorem SupP.binds1 {P : Program} {K : PySem.W.Frag} {mg : Str → Option Value} {D C f g : Addr} {fd : FuncData} {F : NdefX.NF} {ps : List Str} {dvs : List V} (Y : SupP P K mg D C f g fd F ps dvs) (n j : Nat) (hd : dvs ≠ []) (hn : n + (dvs.length - j) = ps.length)
    (h : ∀ (T : Addr) (kV doc pm : Value) (an : Option Addr) (ct : Value) (us its : List Value), us.length = n → its.length = dvs.length →
      ∃ k, bindArgs (PySem.W.fnX F.name F.qual F.params F.body F.scope F.cl (.ref T) kV doc pm an (.ref F.c) ct) ⟨us, []⟩ = seqItems? (.ref T) >>= k ∧ k (some its.toArray) = pure (ps.zip (us ++ its.drop j))) : ∃ ds, Vals (dvs.drop j) ds ∧ Binds K fd ps ds := by
  obtain ⟨oc, od, osl, dV, kV, doc, pm, an, ct, rfl, lk, hD⟩ := Y.lk
  rcases hD with ⟨e, _⟩ | ⟨_, T, o, its, m, rfl, lT, oT, rT⟩
  · exact absurd e hd
  · refine ⟨its.drop j, rT.drop j, fun s us X hlen => ?_⟩
    have l1 : its.length = dvs.length := rT.length.symm
    have l2 : us.length = n := by
      rw [List.length_append, List.length_drop, l1] at hlen
      omega
    obtain ⟨k, e1, e2⟩ := h T kV doc pm an ct us its l2 l1
    refine BindsTo.of_looks fun M => ?_
    rw [e1]
    exact looks_items X lT oT (.of_pure e2)
section
variable {K : PySem.W.Frag} {C : Addr} {σ : L2.St} {G0 H0 G H G2 H2 W : Hp} {ls : List Addr} {cs : Cs} {l : Addr} {ta tb tc : TE} {td : TE} {X : XK} {α β δ κ ι : Type} {R : Rep ι} {S : Rep β} {S2 : Rep δ} {B : Rep κ} {D : Ends} {tz : TS} {ns : List Str}
theorem keepM {κ : Type} [DecidableEq κ] {kf : κ → Key} {R : Rep α} (sc : R.Sc) {v : V} {x : List (κ × α)} (h : (rM kf R).r H v x) (k : ∀ a ws, H a = some (.dK ws) → H2 a = some (.dK ws)) : (rM kf R).r H2 v x := by
  obtain ⟨a, ws, rfl, h2, h3⟩ := h
  exact ⟨a, ws, rfl, k _ _ h2, Paired.mapP h3 fun _ _ q => ⟨q.1, sc q.2⟩⟩
theorem keepL {R : Rep α} (sc : R.Sc) {v : V} {x : List α} (h : (rL R).r H v x) (k : ∀ a ws, H a = some (.lst ws) → H2 a = some (.lst ws)) : (rL R).r H2 v x := by
  obtain ⟨a, ws, rfl, h2, h3⟩ := h
  exact ⟨a, ws, rfl, k _ _ h2, Paired.mapP h3 fun _ _ q => sc q⟩
theorem keepO {R : Rep α} {v : V} {x : Option α} (h : (rO R).r H v x) (k : ∀ y, R.r H v y → R.r H2 v y) : (rO R).r H2 v x := by
  cases x with
  | none => exact h
  | some y => exact k y h
/-- the making of an object with a new list; some arguments are read at the heap itself -/
def PIAT (C : Addr) (R : Rep ι) (S : Rep β) (S2 : Rep δ) (B : Rep κ) (ns : List Str) (fl : Addr → α → List Pd) (f : ι → β → δ → Option α) : Sp := fun vs H Q _ => ∃ G x vo vt va i t al o, vs = [.ref x, vo, vt, va] ∧ Wd G H [(x, cI C [] [])] ∧ R.r G vo i ∧ S.r H vt t ∧ S2.r H va al ∧ f i t al = some o ∧
  ∀ H2 G2 p, H p = none → Fr G H G2 H2 [x] → Wd G2 H2 [(p, cL B []), (x, cI C ns (fl p o))] → Q .non H2
theorem c_makeT {fl : Addr → α → List Pd} {f : ι → β → δ → Option α} {vo vt va : V} {i : ι} {t : β} {al : δ} {z : α} {Q : VK} {vs dvs : List V} (w : Wo G0 H0 ls G H cs) (ho : R.r G vo i) (ht : S.r H vt t) (hl : S2.r H va al) (hv : vs ++ dvs = [vo, vt, va]) (hz : f i t al = some z)
    (k : ∀ v p H2 G2, H0 p = none → Wo G0 H0 ls G2 H2 ((p, cL B []) :: cs) → Ex G G2 → (rObj C ns (fl p)).r G2 v z → Q v H2) :
    ∀ x dx, H x = none → H dx = none → dx ≠ x → PIAT C R S S2 B ns fl f (.ref x :: (vs ++ dvs)) (upd (upd H dx (.own x)) x (.ins C dx [])) (fun v H2 => v = .non ∧ Q (.ref x) H2) X := by
  intro x dx nx ndx ne
  rw [hv]
  have w1 : Wd G (upd (upd H dx (.own x)) x (.ins C dx [])) [(x, cI C [] [])] := new_ins w.ex nx ndx ne
  have eH : Ex H (upd (upd H dx (.own x)) x (.ins C dx [])) := fun a o h => by rw [upd_ne (ne_of_none h nx), upd_ne (ne_of_none h ndx)]; exact h
  refine ⟨G, x, vo, vt, va, i, t, al, z, rfl, w1, ho, S.mono eH ht, S2.mono eH hl, hz, fun H2 G2 p np fr w2 => ⟨rfl, ?_⟩⟩
  have px : p ≠ x := fun z => by rw [z, upd_same] at np; cases np
  have npH : H p = none := by
    rw [upd_ne px] at np
    by_cases q : p = dx
    · rw [q]; exact ndx
    · rw [upd_ne q] at np; exact np
  obtain ⟨G3, k1, k2, k3, dx', fs, k4, k5⟩ := ob_freeze w2.tail
  have hh : Ex H H2 := fun a o h => by
    have na : a ≠ x := ne_of_none h nx
    have nd : a ≠ dx := ne_of_none h ndx
    exact fr.fr a o (by rw [upd_ne na, upd_ne nd]; exact h) fun z => na (List.mem_singleton.mp z)
  have u : Up G H G3 H2 := ⟨fr.gg.trans k1, k2, hh, fun a h1 h2 => by
    have na : a ≠ x := fun z => by subst z; exact h1 nx
    have nd : a ≠ dx := fun z => by subst z; exact h1 ndx
    exact k3 a na (fr.nw a (by rw [upd_ne na, upd_ne nd]; exact h1) h2)⟩
  obtain ⟨h1, o, h2, h3⟩ := w2.head
  have w3 : Wd G3 H2 [(p, cL B [])] := ⟨k2, fun c hc => by
    rw [List.mem_singleton.mp hc]
    exact ⟨k3 p px h1, o, h2, (cL B []).mono k1 h3⟩, List.nodup_cons.mpr ⟨List.not_mem_nil, List.nodup_nil⟩⟩
  have n0 : H0 p = none := by
    cases q : H0 p with
    | none => rfl
    | some o => exact absurd npH (w.f.st p (by rw [q]; simp))
  exact k (.ref x) p H2 G3 n0 (w.newC npH u w3) u.gg ⟨x, dx', fs, rfl, k4, k5⟩
end
end Sim

/-! a comprehension whose test changes cells -/
namespace Sim
open PySem L2 Evl
section
variable {K : PySem.W.Frag} {σ : L2.St} {G0 H0 G H : Hp} {ls : List Addr} {cs : Cs} {tl te : TE} {tt : TT} {α γ : Type} {R : Rep α} {T : Rep γ} {D : Ends} {tz : TS}
end
end Sim
namespace Sim
open PySem L2 Evl
section
variable {K : PySem.W.Frag} {σ : L2.St} {G0 H0 G H : Hp} {ls : List Addr} {cs : Cs} {l : Addr} {α κ : Type} [DecidableEq κ] {kf : κ → Key} {R : Rep α} {Q : VK}
end
end Sim

/-! functions made by a lambda; their captured cells laid in the heap as known things -/
namespace LamF
open PySem PySem.Spec PyProof.Rows L2 LamX NdefX
/-- cells laid, taken out -/
def layH (cs : List (Addr × Obj)) (H : Hp) : Hp := fun a => match cs.lookup a with
  | some o => some (CelO o)
  | none => H a
section
variable {cs : List (Addr × Obj)} {H H' H0 : Hp} {a : Addr} {o : Obj}
theorem lay_in (h : cs.lookup a = some o) : layH cs H a = some (CelO o) := by unfold layH; rw [h]
theorem lay_out (h : cs.lookup a = none) : layH cs H a = H a := by unfold layH; rw [h]
theorem unlay_in (h : cs.lookup a = some o) : unlayH cs H a = none := by unfold unlayH; rw [h]
theorem unlay_out (h : cs.lookup a = none) : unlayH cs H a = H a := by unfold unlayH; rw [h]
theorem lay_unlay (h : ∀ a o, cs.lookup a = some o → H a = some (CelO o)) : layH cs (unlayH cs H) = H := by
  funext a
  cases e : cs.lookup a with
  | some o => rw [lay_in e, h a o e]
  | none => rw [lay_out e, unlay_out e]
theorem unlay_lay (h : ∀ a o, cs.lookup a = some o → H a = none) : unlayH cs (layH cs H) = H := by
  funext a
  cases e : cs.lookup a with
  | some o => rw [unlay_in e, h a o e]
  | none => rw [unlay_out e, lay_out e]
theorem lay_ex (h : ∀ a o, cs.lookup a = some o → H a = none) {b : Addr} {u : HO} (e : H b = some u) : layH cs H b = some u := by
  cases q : cs.lookup b with
  | some o => rw [h b o q] at e; cases e
  | none => rw [lay_out q]; exact e
/-- these cells stand in h, none of them a frame's -/
structure Stand (fs : List Addr) (cs : List (Addr × Obj)) (h : Heap) : Prop where
  at_ : ∀ c o, cs.lookup c = some o → h.get? c = some o
  cel : ∀ c o, cs.lookup c = some o → ∃ v, o.data = .cell v
  nf : ∀ c o, cs.lookup c = some o → c ∉ fs
end
section
variable {P : Program} {w : World} {cs : List (Addr × Obj)} {H H' H0 H1 : Hp} {h h' B : Heap} {fs : List Addr}
theorem hok_lay (S : Stand fs cs h) (hn : ∀ c o, cs.lookup c = some o → H c = none) (hok : HOk P w H h) : HOk P w (layH cs H) h := fun b u e => by
  cases q : cs.lookup b with
  | some o =>
    rw [lay_in q] at e
    cases e
    exact ⟨S.at_ _ _ q, trivial, ⟨o, S.at_ _ _ q⟩, fun _ _ _ _ => trivial⟩
  | none =>
    rw [lay_out q] at e
    exact (hok b u e).stay (fun _ _ _ z => z) (fun _ z => lay_ex hn z) fun _ _ z => lay_ex hn z
theorem hok_unlay (hl : ∀ c o, cs.lookup c = some o → H c = some (CelO o)) (hok : HOk P w H h) : HOk P w (unlayH cs H) h := fun b u e => by
  cases q : cs.lookup b with
  | some o => rw [unlay_in q] at e; cases e
  | none =>
    rw [unlay_out q] at e
    have k : ∀ c v, (∀ o, v ≠ CelO o) → H c = some v → unlayH cs H c = some v := fun c v n z => by
      cases q : cs.lookup c with
      | some o => rw [hl c o q] at z; exact absurd (Option.some.inj z).symm (n o)
      | none => rw [unlay_out q]; exact z
    exact (hok b u e).stay (fun _ _ _ z => z) (fun _ z => k _ _ (fun o z => by cases z) z) fun _ _ z => k _ _ (fun o z => by cases z) z
/-- what a call leaves, told without the cells -/
theorem un_unlay (hl : ∀ c o, cs.lookup c = some o → H c = some (CelO o)) (S : Stand fs cs h) (hok' : HOk P w H' h') (u : Un fs [] H H' h h') :
    Un fs [] (unlayH cs H) (unlayH cs H') h h' ∧ ∀ c o, cs.lookup c = some o → H' c = some (CelO o) := by
  have hl' : ∀ c o, cs.lookup c = some o → H' c = some (CelO o) := fun c o q => u.frzs c _ _ (hl c o q)
  have same : ∀ c o, cs.lookup c = some o → h'.get? c = some o := fun c o q => (hok' c _ (hl' c o q)).1
  have dn : ∀ b, cs.lookup b = none → unlayH cs H b = none → H b = none := fun b q z => by rw [unlay_out q] at z; exact z
  have tt : ∀ b v, (∀ o, v ≠ CelO o) → unlayH cs H b = some v → cs.lookup b = none ∧ H b = some v := fun b v n z => by
    cases q : cs.lookup b with
    | some o => rw [unlay_in q] at z; cases z
    | none => rw [unlay_out q] at z; exact ⟨rfl, z⟩
  refine ⟨⟨fun b o e n hb hx => ?_, fun b o e n hb hx => ?_, fun b o e n hx => ?_, u.there, fun b xs e => ?_, fun b o v e => ?_, fun b ps e => ?_⟩, hl'⟩
  · cases q : cs.lookup b with
    | some o' =>
      have := S.at_ _ _ q
      rw [e] at this
      cases this
      exact same b _ q
    | none => exact u.keep b o e (dn b q n) hb hx
  · cases q : cs.lookup b with
    | some o' => exact absurd hb (S.nf _ _ q)
    | none => exact u.slot b o e (dn b q n) hb hx
  · cases q : cs.lookup b with
    | some o' => exact unlay_in q
    | none => rw [unlay_out q]; exact u.free b o e (dn b q n) hx
  · obtain ⟨q, z⟩ := tt b _ (fun o z => by cases z) e
    rw [unlay_out q]
    exact u.tups b xs z
  · cases q : cs.lookup b with
    | some o' => rw [unlay_in q] at e; cases e
    | none => rw [unlay_out q] at e ⊢; exact u.frzs b o v e
  · obtain ⟨q, z⟩ := tt b _ (fun o z => by cases z) e
    rw [unlay_out q]
    exact u.tbls b ps z
/-- .. told with the cells -/
theorem un_lay (hn : ∀ c o, cs.lookup c = some o → H c = none) (S : Stand fs cs h) (u : Un fs [] H H' h h') : Un fs [] (layH cs H) (layH cs H') h h' ∧ (∀ c o, cs.lookup c = some o → H' c = none) ∧ Stand fs cs h' := by
  have hn' : ∀ c o, cs.lookup c = some o → H' c = none := fun c o q => u.free c o (S.at_ _ _ q) (hn c o q) (by simp)
  have up : ∀ b v, H' b = some v → layH cs H' b = some v := fun b v e => lay_ex hn' e
  have dn : ∀ b v, (∀ o, v ≠ CelO o) → layH cs H b = some v → H b = some v := fun b v n z => by
    cases q : cs.lookup b with
    | some o => rw [lay_in q] at z; exact absurd (Option.some.inj z).symm (n o)
    | none => rw [lay_out q] at z; exact z
  refine ⟨⟨fun b o e n hb hx => ?_, fun b o e n hb hx => ?_, fun b o e n hx => ?_, u.there, fun b xs e => up _ _ (u.tups b xs (dn _ _ (fun o z => by cases z) e)), fun b o v e => ?_, fun b ps e => ?_⟩, hn', ⟨fun c o q => u.keep c o (S.at_ _ _ q) (hn c o q) (S.nf _ _ q) (by simp), S.cel, S.nf⟩⟩
  · cases q : cs.lookup b with
    | some o' => rw [lay_in q] at n; cases n
    | none => rw [lay_out q] at n; exact u.keep b o e n hb hx
  · cases q : cs.lookup b with
    | some o' => rw [lay_in q] at n; cases n
    | none => rw [lay_out q] at n; exact u.slot b o e n hb hx
  · cases q : cs.lookup b with
    | some o' => rw [lay_in q] at n; cases n
    | none => rw [lay_out q] at n ⊢; exact u.free b o e n hx
  · cases q : cs.lookup b with
    | some o' => rw [lay_in q] at e ⊢; exact e
    | none => rw [lay_out q] at e ⊢; exact u.frzs b o v e
  · obtain ⟨more, z⟩ := u.tbls b ps (dn _ _ (fun o z => by cases z) e)
    exact ⟨more, up _ _ z⟩
theorem ub_unlay (hl : ∀ c o, cs.lookup c = some o → H c = some (CelO o)) (S : Stand fs cs h) (hokB : HOk P w H' B) (u : UB fs H H' h B h') :
    UB fs (unlayH cs H) (unlayH cs H') h B h' ∧ ∀ c o, cs.lookup c = some o → H' c = some (CelO o) := by
  have hl' : ∀ c o, cs.lookup c = some o → H' c = some (CelO o) := fun c o q => u.frzs c _ _ (hl c o q)
  have same : ∀ c o, cs.lookup c = some o → B.get? c = some o := fun c o q => (hokB c _ (hl' c o q)).1
  have dn : ∀ b, cs.lookup b = none → unlayH cs H b = none → H b = none := fun b q z => by rw [unlay_out q] at z; exact z
  have tt : ∀ b v, (∀ o, v ≠ CelO o) → unlayH cs H b = some v → cs.lookup b = none ∧ H b = some v := fun b v n z => by
    cases q : cs.lookup b with
    | some o => rw [unlay_in q] at z; cases z
    | none => rw [unlay_out q] at z; exact ⟨rfl, z⟩
  refine ⟨⟨fun b o e n hb => ?_, u.slot, fun b o e n => ?_, u.there, fun b xs e => ?_, fun b o v e => ?_, fun b ps e => ?_⟩, hl'⟩
  · cases q : cs.lookup b with
    | some o' =>
      have := S.at_ _ _ q
      rw [e] at this
      cases this
      exact same b _ q
    | none => exact u.keep b o e (dn b q n) hb
  · cases q : cs.lookup b with
    | some o' => exact unlay_in q
    | none => rw [unlay_out q]; exact u.free b o e (dn b q n)
  · obtain ⟨q, z⟩ := tt b _ (fun o z => by cases z) e
    rw [unlay_out q]
    exact u.tups b xs z
  · cases q : cs.lookup b with
    | some o' => rw [unlay_in q] at e; cases e
    | none => rw [unlay_out q] at e ⊢; exact u.frzs b o v e
  · obtain ⟨q, z⟩ := tt b _ (fun o z => by cases z) e
    rw [unlay_out q]
    exact u.tbls b ps z
theorem ub_lay (hn : ∀ c o, cs.lookup c = some o → H c = none) (S : Stand fs cs h) (u : UB fs H H' h B h') : UB fs (layH cs H) (layH cs H') h B h' ∧ (∀ c o, cs.lookup c = some o → H' c = none) ∧ Stand fs cs B := by
  have hn' : ∀ c o, cs.lookup c = some o → H' c = none := fun c o q => u.free c o (S.at_ _ _ q) (hn c o q)
  have up : ∀ b v, H' b = some v → layH cs H' b = some v := fun b v e => lay_ex hn' e
  have dn : ∀ b v, (∀ o, v ≠ CelO o) → layH cs H b = some v → H b = some v := fun b v n z => by
    cases q : cs.lookup b with
    | some o => rw [lay_in q] at z; exact absurd (Option.some.inj z).symm (n o)
    | none => rw [lay_out q] at z; exact z
  refine ⟨⟨fun b o e n hb => ?_, u.slot, fun b o e n => ?_, u.there, fun b xs e => up _ _ (u.tups b xs (dn _ _ (fun o z => by cases z) e)), fun b o v e => ?_, fun b ps e => ?_⟩, hn', ⟨fun c o q => u.keep c o (S.at_ _ _ q) (hn c o q) (S.nf _ _ q), S.cel, S.nf⟩⟩
  · cases q : cs.lookup b with
    | some o' => rw [lay_in q] at n; cases n
    | none => rw [lay_out q] at n; exact u.keep b o e n hb
  · cases q : cs.lookup b with
    | some o' => rw [lay_in q] at n; cases n
    | none => rw [lay_out q] at n ⊢; exact u.free b o e n
  · cases q : cs.lookup b with
    | some o' => rw [lay_in q] at e ⊢; exact e
    | none => rw [lay_out q] at e ⊢; exact u.frzs b o v e
  · obtain ⟨more, z⟩ := u.tbls b ps (dn _ _ (fun o z => by cases z) e)
    exact ⟨more, up _ _ z⟩
end
/-- what may leave a def, told with or without the cells -/
structure CXlay (CXT0 : CXT) (P : Program) (w : World) : Prop where
  un : ∀ {outer : List Env} {H : Hp} {s s' : Shared} {E : XK} {e : Value} {cs : List (Addr × Obj)}, Stand (frs outer) cs s.heap → (∀ c o, cs.lookup c = some o → H c = some (CelO o)) → CXT0 outer H s E e s' → CXT0 outer (unlayH cs H) s (fun c d H' => E c d (layH cs H')) e s'
  ly : ∀ {outer : List Env} {H : Hp} {s s' : Shared} {E : XK} {e : Value} {cs : List (Addr × Obj)}, Stand (frs outer) cs s.heap → (∀ c o, cs.lookup c = some o → H c = none) → CXT0 outer H s (fun c d H' => E c d (layH cs H')) e s' → CXT0 outer (layH cs H) s E e s'
theorem cxlay {P : Program} {w : World} : CXlay (L2.CX P w) P w := by
  refine ⟨fun {outer H s s' E e cs} S hl h => ?_, fun {outer H s s' E e cs} S hn h => ?_⟩
  · obtain ⟨a, B, H', cls, d, rfl, fl, hok, ub, na, os, ag, hE⟩ := h
    obtain ⟨ub2, hl'⟩ := ub_unlay hl S hok ub
    refine ⟨a, B, unlayH cs H', cls, d, rfl, fl, hok_unlay hl' hok, ub2, ?_, os, ag, ?_⟩
    · cases q : cs.lookup a with
      | some o => exact unlay_in q
      | none => rw [unlay_out q]; exact na
    · show E cls d (layH cs (unlayH cs H'))
      rw [lay_unlay hl']
      exact hE
  · obtain ⟨a, B, H', cls, d, rfl, fl, hok, ub, na, os, ag, hE⟩ := h
    obtain ⟨ub2, hn', SB⟩ := ub_lay hn S ub
    refine ⟨a, B, layH cs H', cls, d, rfl, fl, hok_lay SB hn' hok, ub2, ?_, os, ag, hE⟩
    cases q : cs.lookup a with
    | some o =>
      have e1 := fl.2.1
      rw [SB.at_ _ _ q] at e1
      cases e1
    | none => rw [lay_out q]; exact na
section
variable {P : Program} {w : World} {CX : CXT} {outer : List Env} {H : Hp} {s s' : Shared} {Q : VK} {E : XK} {cs : List (Addr × Obj)}
theorem ce_unlay {u : Value} (S : Stand (frs outer) cs s.heap) (hl : ∀ c o, cs.lookup c = some o → H c = some (CelO o)) (h : CE outer P w H s Q u s') : CE outer P w (unlayH cs H) s (fun v H' => Q v (layH cs H')) u s' := by
  obtain ⟨v, H', os, bare, un, hok, r, q⟩ := h
  obtain ⟨un2, hl'⟩ := un_unlay hl S hok un
  exact ⟨v, unlayH cs H', os, bare, un2, hok_unlay hl' hok, r, by show Q v (layH cs (unlayH cs H')); rw [lay_unlay hl']; exact q⟩
theorem ce_lay {u : Value} (S : Stand (frs outer) cs s.heap) (hn : ∀ c o, cs.lookup c = some o → H c = none) (h : CE outer P w H s (fun v H' => Q v (layH cs H')) u s') : CE outer P w (layH cs H) s Q u s' := by
  obtain ⟨v, H', os, bare, un, hok, r, q⟩ := h
  obtain ⟨un2, hn', S'⟩ := un_lay hn S un
  exact ⟨v, layH cs H', os, bare, un2, hok_lay S' hn' hok, r, q⟩
theorem cr_unlay {r : Result} (C : CXlay CX P w) (S : Stand (frs outer) cs s.heap) (hl : ∀ c o, cs.lookup c = some o → H c = some (CelO o)) (h : CR CX outer P w H s Q E r s') : CR CX outer P w (unlayH cs H) s (fun v H' => Q v (layH cs H')) (fun c d H' => E c d (layH cs H')) r s' := by
  cases r with
  | error e => exact C.un S hl h
  | ok f =>
    cases f with
    | ret u => exact ce_unlay S hl h
    | next => exact h
    | brk => exact h
    | cont => exact h
end
end LamF

/-! lambdas: made, called, handed over -/
namespace LamF
open PySem PySem.Spec PyProof.Rows L2 LamX NdefX
abbrev LF.nf (F : LF) : NF := ⟨"<lambda>", F.qual, F.params, [], F.scope, F.cl, F.c⟩
theorem fnL_ok {P : Program} {w : World} {H : Hp} {h : Heap} {f : Addr} {F : LF} {pm ctv : Value} (e : h.get? f = some (F.obj pm ctv)) : ObjOk P w H h f (FnL f F) :=
  ⟨⟨pm, ctv, e⟩, ⟨_, e⟩, fun _ _ ⟨pm, ctv, e⟩ k => ⟨pm, ctv, k _ e⟩⟩
/-- what the making of a lambda leaves -/
structure Lm (H H1 : Hp) (P f : Addr) (F : LF) (ps0 ps : Array Value) : Prop where
  nf : H f = none
  src : H F.c = none ∨ ∃ pos, codeAmong pos ps0.toList = some (.ref F.c)
  old : ∀ (pos : Pos) (cv : Value), codeAmong pos ps.toList = some cv → codeAmong pos ps0.toList = some cv ∨ cv = .ref F.c
  at_ : H1 f = some (FnL f F)
  co : H1 F.c = some (CodeO F.c F.qual)
  tb : H1 P = some (.tbl ps)
  cd : Cds H1 F.qual ps
  ex : ∀ b o, b ≠ P → H b = some o → H1 b = some o
  nw : ∀ b, H1 b ≠ none → H b = none → b = f ∨ b = F.c
def tLam (P : Addr) (mk : Addr → LF) : TE := fun σ H Q => ∃ ps, H P = some (.tbl ps) ∧ Cds H (mk 0).qual ps ∧ ∀ f c' ps' H1, Lm H H1 P f (mk c') ps ps' → Q (.ref f) H1
section
variable {X : Cx} {pins : List (Addr × Obj)} {σ : L2.St} {H : Hp} {s : Shared}
theorem pe_lam {c P : Addr} {params : Arguments} {body : Expr} {scope : Scope} {pos : Pos} (TB : TabB X.base X.mg c P) (hcode : X.env.code = .ref c) (hdef : defaultsOf params X.env = ([], [])) (hfree : X.Ok → ∀ y ∈ scope.names, y.2 = .free → ∃ c, X.env.cells.lookup y.1 = some c) :
    PE X (.Lambda params body scope pos) (tLam P fun c' => ⟨X.env.qual ++ "<lambda>", params, body, scope, cloFrom X.env.cells scope.names [], c'⟩) := by
  constructor
  intro pins s σ H Q I hq
  obtain ⟨ps, hP, ⟨ht, ha⟩, fin⟩ := hq
  have hcl := closure_ok (hfree I.ok)
  have hg := I.mod.glob.keeps I.bk
  have hd := TB.code.keeps I.bk
  have hb := TB.bm.keeps I.bk
  have hP' : s.heap.get? P = some { cls := .none, data := .fields ps } := I.hok P _ hP
  apply PySem.W.kla_eval hdef
  cases hc : codeAmong pos ps.toList with
  | some cv =>
    obtain ⟨c', rfl, hco⟩ := ha pos cv hc
    apply PySem.W.kla_makeFunctionHit (mg := X.mg) (c := c) (P := P) (ps := ps) hcl I.ok.glob hg hcode hd hP' ht hc hb
    intro ctv h' tk hx hsz
    have nF : H h'.objs.size = none := I.hok.fresh hsz
    let F : LF := ⟨X.env.qual ++ "<lambda>", params, body, scope, cloFrom X.env.cells scope.names [], c'⟩
    have J := I.laid (a := h'.objs.size) (o := FnL h'.objs.size F) (t' := tk) (h' := h'.push (F.obj ((X.mg "__name__").getD .none) ctv)) (fun b o e => Heap.get?_push_of_some _ (hx b o e)) hsz (fnL_ok (Heap.get?_push_size _ rfl))
    have up : ∀ b o, H b = some o → upd H h'.objs.size (FnL h'.objs.size F) b = some o := fun b o e => by rw [upd_ne (ne_of_none e nF)]; exact e
    refine ⟨.ref h'.objs.size, _, J, rfl, fin h'.objs.size c' ps _ ⟨nF, .inr ⟨pos, hc⟩, fun _ _ z => .inl z, upd_same, up _ _ hco, up _ _ hP, ⟨ht, fun p cv e => ?_⟩, fun b o _ e => up b o e, fun b e n => ?_⟩⟩
    · obtain ⟨c0, e1, e2⟩ := ha p cv e
      exact ⟨c0, e1, up _ _ e2⟩
    · by_cases q : b = h'.objs.size
      · exact .inl q
      · rw [upd_ne q] at e
        exact absurd n e
  | none =>
    apply PySem.W.kla_makeFunction (mg := X.mg) (c := c) (P := P) (ps := ps) hcl I.ok.glob hg hcode hd hP' ht hc TB.gP hb
    intro c' ctv h' tk hx hge hlt hrec htb
    obtain ⟨c2, oc, vs, t, e2, hoc, hdd, hv⟩ := hrec
    cases e2
    have nC : H c' = none := I.hok.fresh hge
    have hsz : s.heap.objs.size ≤ h'.objs.size := Nat.le_trans hge (Nat.le_of_lt hlt)
    have nF : H h'.objs.size = none := I.hok.fresh hsz
    have I1 := inv_table (t' := tk) (q := X.env.qual ++ "<lambda>") (more := #[rawInt pos.line, rawInt pos.col, .ref c']) I hP (fun b o hb e => hx b o hb e) htb hge ⟨oc, vs, t, hoc, hdd, hv⟩
    let F : LF := ⟨X.env.qual ++ "<lambda>", params, body, scope, cloFrom X.env.cells scope.names [], c'⟩
    have J := I1.laid (a := h'.objs.size) (o := FnL h'.objs.size F) (t' := tk) (h' := h'.push (F.obj ((X.mg "__name__").getD .none) ctv)) (fun b o e => Heap.get?_push_of_some _ e) (Nat.le_refl _) (fnL_ok (Heap.get?_push_size _ rfl))
    have n1 : c' ≠ h'.objs.size := Nat.ne_of_lt hlt
    have n2 : P ≠ h'.objs.size := ne_of_none hP nF
    have n3 : P ≠ c' := ne_of_none hP nC
    have up : ∀ b o, b ≠ P → H b = some o → upd (upd (upd H P (.tbl (ps ++ #[rawInt pos.line, rawInt pos.col, .ref c']))) c' (CodeO c' (X.env.qual ++ "<lambda>"))) h'.objs.size (FnL h'.objs.size F) b = some o := fun b o hb e => by
      rw [upd_ne (ne_of_none e nF), upd_ne (ne_of_none e nC), upd_ne hb]
      exact e
    have eL : (ps ++ #[rawInt pos.line, rawInt pos.col, .ref c']).toList = ps.toList ++ [rawInt pos.line, rawInt pos.col, .ref c'] := by simp
    have cC : upd (upd (upd H P (.tbl (ps ++ #[rawInt pos.line, rawInt pos.col, .ref c']))) c' (CodeO c' (X.env.qual ++ "<lambda>"))) h'.objs.size (FnL h'.objs.size F) c' = some (CodeO c' (X.env.qual ++ "<lambda>")) := by rw [upd_ne n1, upd_same]
    refine ⟨.ref h'.objs.size, _, J, rfl, fin h'.objs.size c' _ _ ⟨nF, .inl nC, fun p cv e => ?old, upd_same, cC, by rw [upd_ne n2, upd_ne n3, upd_same], ⟨by rw [eL]; exact PySem.TriplesOk_snoc _ _ _ _ ht, fun p cv e => ?_⟩, up, fun b e n => ?_⟩⟩
    case old =>
      rw [eL] at e
      exact among_app _ ht e
    · rw [eL] at e
      rcases among_app _ ht e with z | z
      · obtain ⟨c0, e1, e2⟩ := ha p cv z
        refine ⟨c0, e1, up _ _ (fun z => ?_) e2⟩
        rw [z, hP] at e2
        exact codeO_ne ps (Option.some.inj e2).symm
      · exact ⟨c', z, cC⟩
    · by_cases q : b = h'.objs.size
      · exact .inl q
      · by_cases q2 : b = c'
        · exact .inr q2
        · rw [upd_ne q, upd_ne q2] at e
          by_cases q3 : b = P
          · rw [q3, hP] at n; cases n
          · rw [upd_ne q3] at e
            exact absurd n e
end
/-! ### a call with the own cells of these names laid -/
structure LaidBy (X : Cx) (fr : List Str) (σ : L2.St) (H : Hp) (cs : List (Addr × Obj)) : Prop where
  inj : ∀ x y c, X.env.cells.lookup x = some c → X.env.cells.lookup y = some c → x = y
  nn : ∀ c o, cs.lookup c = some o → H c = none
  at_ : ∀ y ∈ fr, ∃ c o u, X.env.cells.lookup y = some c ∧ cs.lookup c = some o ∧ o.data = .cell u ∧ ∀ (i : Nat) (v : V), X.N[i]? = some y → σ[i]? = some (some v) → Vis X.env.scope y → ∃ u', u = some u' ∧ RelV v u'
def celsOf (X : Cx) (fr : List Str) (h : Heap) : List (Addr × Obj) := fr.filterMap fun y => X.env.cells.lookup y >>= fun c => h.get? c >>= fun o => some (c, o)
section
variable {X : Cx} {pins : List (Addr × Obj)} {σ : L2.St} {H : Hp} {s : Shared} {fr : List Str}
theorem cels_mem {h : Heap} {c : Addr} {o : Obj} (e : (c, o) ∈ celsOf X fr h) : h.get? c = some o ∧ ∃ y ∈ fr, X.env.cells.lookup y = some c := by
  obtain ⟨y, hy, e⟩ := List.mem_filterMap.mp e
  cases q : X.env.cells.lookup y with
  | none => rw [q] at e; cases e
  | some c1 =>
    rw [q] at e
    cases q2 : h.get? c1 with
    | none => simp [q2] at e
    | some o1 =>
      simp [q2] at e
      obtain ⟨rfl, rfl⟩ := e
      exact ⟨q2, y, hy, q⟩
theorem cels_look {h : Heap} {c : Addr} {o : Obj} (e : (celsOf X fr h).lookup c = some o) : h.get? c = some o ∧ ∃ y ∈ fr, X.env.cells.lookup y = some c := cels_mem (mem_look e)
theorem cels_at {h : Heap} {y : Str} {c : Addr} {o : Obj} (hy : y ∈ fr) (q : X.env.cells.lookup y = some c) (q2 : h.get? c = some o) : (celsOf X fr h).lookup c = some o := by
  have : (c, o) ∈ celsOf X fr h := List.mem_filterMap.mpr ⟨y, hy, by simp [q, q2]⟩
  obtain ⟨o', e⟩ := look_mem this
  have := (cels_look e).1
  rw [q2] at this
  cases this
  exact e
theorem laidBy (I : Inv X pins σ H s) (hfr : ∀ y ∈ fr, ∃ c, X.env.cells.lookup y = some c) (hv : ∀ y ∈ fr, X.env.scope.names.lookup y ≠ some .local) : LaidBy X fr σ H (celsOf X fr s.heap) := by
  refine ⟨I.ok.inj, fun c o e => ?_, fun y hy => ?_⟩
  · obtain ⟨_, y, _, q⟩ := cels_look e
    exact I.freeC y c q
  · obtain ⟨c, q⟩ := hfr y hy
    obtain ⟨u, o, ho, hd⟩ := I.cell y c q
    refine ⟨c, o, u, q, cels_at hy q ho, hd, fun i v e1 e2 e3 => ?_⟩
    obtain ⟨m, hn, hl⟩ := I.loc
    obtain ⟨u', r, z⟩ := hl i y v e1 e2 e3
    rcases z with ⟨k, _⟩ | ⟨_, c2, q2, o2, ho2, hd2⟩
    · exact absurd k (hv y hy)
    · rw [q] at q2
      cases q2
      rw [ho] at ho2
      cases ho2
      rw [hd] at hd2
      cases hd2
      exact ⟨u', rfl, r⟩
end
/-- where the cells to be laid lie: apart from the written part and the frames -/
def CelFree (X : Cx) (fr : List Str) : Prop := ∀ (pins : List (Addr × Obj)) (σ : L2.St) (H : Hp) (s : Shared), Inv X pins σ H s → ∀ y ∈ fr, ∀ c, X.env.cells.lookup y = some c → X.base.get? c = none ∧ c ∉ frs X.stack
theorem celFree_of {X : Cx} {fr : List Str} (hfn : ∀ y ∈ fr, X.fn y = true) : CelFree X fr := fun pins σ H s I y hy c q => by
  have hge := I.ok.cab y c (hfn y hy) q
  refine ⟨?_, fun z => ?_⟩
  · cases e : X.base.get? c with
    | none => rfl
    | some o => exact absurd (Nat.lt_of_lt_of_le (Heap.lt_size e) (Nat.le_trans I.ok.bsz hge)) (Nat.lt_irrefl _)
  · rcases List.mem_cons.mp (I.stkSub c z) with e | e
    · exact I.cne y c q e
    · obtain ⟨_, o, ho, _⟩ := I.ok.funs.mem e
      exact absurd (Nat.lt_of_lt_of_le (Heap.lt_size ho) hge) (Nat.lt_irrefl _)
section
variable {X : Cx} {pins : List (Addr × Obj)} {σ : L2.St} {H : Hp} {s : Shared} {fr : List Str} {cs : List (Addr × Obj)}
theorem env0_lay (I : Inv X pins σ H s) (hb : ∀ c o, cs.lookup c = some o → H c = none ∧ X.base.get? c = none ∧ c ∉ frs X.stack) (S : Stand (frs X.stack) cs s.heap) : Env0 X.prog X.w X.K X.mg X.base X.A X.stack s (layH cs H) := by
  have e := I.env0
  refine ⟨e.frames, e.mod, fun b o q => ⟨(e.bs b o q).1, ?_⟩, e.bsz, e.funs, fun b hb' => ?_, hok_lay S (fun c o q => (hb c o q).1) e.hok, e.bare⟩
  · cases q2 : cs.lookup b with
    | none => rw [lay_out q2]; exact (e.bs b o q).2
    | some o2 => rw [(hb b o2 q2).2.1] at q; cases q
  · cases q2 : cs.lookup b with
    | none => rw [lay_out q2]; exact e.frf b hb'
    | some o2 => exact absurd hb' (hb b o2 q2).2.2
theorem stand_cels (I : Inv X pins σ H s) (hf : CelFree X fr) : Stand (frs X.stack) (celsOf X fr s.heap) s.heap := by
  refine ⟨fun c o e => (cels_look e).1, fun c o e => ?_, fun c o e => ?_⟩
  · obtain ⟨ho, y, hy, q⟩ := cels_look e
    obtain ⟨u, o2, ho2, hd⟩ := I.cell y c q
    rw [ho] at ho2
    cases ho2
    exact ⟨u, hd⟩
  · obtain ⟨ho, y, hy, q⟩ := cels_look e
    exact (hf _ _ _ _ I y hy c q).2
end
section
variable {X : Cx} {CX : CXT} {k : Nat} {f : Addr} {fd : FuncData} {ps : List Str} {sp : Sp} {E : L2.St → XK} {x : Str} {p pos : Pos} {e : Expr} {es : List Expr} {t : TA} {fr : List Str}
end
end LamF

/-! functions made by a lambda: called; handed back by a def -/
namespace LamF
open PySem PySem.Spec PyProof.Rows L2 LamX NdefX
section
variable {H : Hp} {f : Addr} {F : LF} {fr : List Str} {us : List V}
end
/-- an exception of the body's call leaves the function -/
def NcxP (CX : CXT) (P : Program) (w : World) (K : PySem.W.Frag) (mg : Str → Option Value) (base : Heap) (N : List Str) (F : NF) : Prop := ∀ (f : Addr) (A : Around) (outer : List Env) (s : Shared) (H : Hp) (E : XK), Passes CX (ncx CX P w K mg base N F f A outer s H E) E
theorem ncxP {P : Program} {w : World} {K : PySem.W.Frag} {mg : Str → Option Value} {base : Heap} {N : List Str} {F : NF} : NcxP (L2.CX P w) P w K mg base N F := fun f A outer s H E =>
  passes_call (X := ncx (L2.CX P w) P w K mg base N F f A outer s H E) (takes_of rfl rfl rfl rfl) (fun _ _ _ _ h => h)
section
variable {CX : CXT} {P : Program} {w : World} {K : PySem.W.Frag} {mg : Str → Option Value} {base : Heap} {N ps fr psg : List Str} {F : LF} {f g : Addr} {fdg : FuncData} {k : Nat} {spg : Sp} {x : Str} {e : Expr} {es : List Expr} {p0 pos : Pos} {js : List Nat} {us : List V}
end
/-! ### x(..), x a local name that holds something that can be called -/
def tCallV (X : Cx) (CX : CXT) (k i : Nat) (E : L2.St → XK) (t : TA) : TE := fun σ H Q => ∃ f, σ[i]? = some (some (.ref f)) ∧ Cb H f ∧ t σ H fun vs H1 => Cb2 H H1 f ∧ ∃ sp, CalOk X.prog X.w X.K X.mg X.base CX k f sp ∧ sp vs H1 Q (E σ)
section
variable {X : Cx} {CX : CXT} {k i : Nat} {E : L2.St → XK} {x : Str} {p pos : Pos} {e : Expr} {es : List Expr} {t : TA}
theorem pe_callV (hN : X.N[i]? = some x) (hv : Vis X.env.scope x) (hr : Room k X.A) (hx : ∀ σ, PassesAt CX X σ (E σ)) (ha : PA X (e :: es) t) (hdb : (x == ("__debug__" : Str)) = false := by decide) (hcd : (x == ("__classdict__" : Str)) = false := by decide)
    (he : starEach (e :: es) X.env = (false, eval e X.env) :: starEach es X.env := by rfl) (hpl : (backTo pos (starEach es X.env)).any (·.1) = false := by rfl) : PE X (.Call (.Name x p) (e :: es) [] pos) (tCallV X CX k i E t) := by
  constructor
  intro pins s σ H Q I hq
  obtain ⟨f, hs, hc, ht⟩ := hq
  apply wpAny_Call_Name_kw
  refine thn ((pe_var (pos := p) hN hv hdb hcd).run pins s σ H (fun v H1 => v = .ref f ∧ H1 = H) I ⟨.ref f, hs, rfl, rfl⟩) fun u s1 ⟨v, H1, I1, r1, q1⟩ => ?_
  obtain ⟨rfl, rfl⟩ := q1
  cases r1
  have tail : ∀ us s2 vs H2, Inv X pins σ H2 s2 → Vals vs us → (∃ sp, CalOk X.prog X.w X.K X.mg X.base CX k f sp ∧ sp vs H2 Q (E σ)) → wpAny (model X.prog X.w) X.A (call (.ref f) us) (EP X pins σ Q) X.xe s2 := fun us s2 vs H2 I2 r ⟨sp, ok, q⟩ => by
    refine wpAny_call (codeAny_mono (ok X.A X.stack s2 H2 us vs Q (E σ) hr I2.env0 r q) fun rr s' hq => ?_)
    cases rr with
    | error ev => exact hx σ pins H2 s2 ev s' I2 hq
    | ok fl =>
      cases fl with
      | ret u => exact I2.after hq
      | next => exact False.elim hq
      | brk => exact False.elim hq
      | cont => exact False.elim hq
  rcases hc with ⟨F, hF⟩ | ⟨C, dx, fs, hF⟩
  · obtain ⟨⟨pm, ctv, ho⟩, _, _⟩ := I1.hok f _ hF
    refine PySem.W.callWith_F (first := []) ⟨_, _, _, _, ho⟩ (thn (ha.run pos pins s1 σ _ _ I1 ht) fun us s2 ⟨vs, H2, I2, r, hc2, q⟩ => ⟨?_, tail us s2 vs H2 I2 r q⟩) he hpl
    obtain ⟨⟨pm, ctv, ho⟩, _, _⟩ := I2.hok f _ (hc2.1 F hF)
    exact ⟨_, _, _, _, ho⟩
  · refine PySem.W.kcoX_callWith (ox := PySem.W.instObj C dx) (C := C) rfl (thn (ha.run pos pins s1 σ _ _ I1 ht) fun us s2 ⟨vs, H2, I2, r, hc2, q⟩ => ⟨?_, tail us s2 vs H2 I2 r q⟩) he hpl
    obtain ⟨gs, ga⟩ := hc2.2 C dx fs hF
    obtain ⟨mA, J, _⟩ := ins_get I2.hok ga
    obtain ⟨od, J, _⟩ := J.look
    exact ⟨od, J⟩
/-- an instance of a class with a __call__ -/
theorem calOk_ins {f0 a C : Addr} {fd : FuncData} {ps : List Str} {spf : Sp} {P : Program} {w : World} {K : PySem.W.Frag} {mg : Str → Option Value} {base : Heap} (M : Meth K C "__call__" f0) (hfn : PySem.W.fnIn K f0 = true) (F : FnOk P w K mg base CX k f0 fd ps spf) (hb : L2.Binds K fd ps []) :
    CalOk P w K mg base CX k a fun vs H Q E => (∃ dx fs, H a = some (.ins C dx fs)) ∧ spf (.ref a :: vs) H Q E := by
  intro A outer s H us vs Q E hr e0 r hq
  obtain ⟨⟨dx, gs, ga⟩, q⟩ := hq
  have kin : K.In s.heap := e0.mod.kin.keeps fun b o e => (e0.bs b o e).1
  obtain ⟨mA, J, _⟩ := ins_get e0.hok ga
  obtain ⟨od, J, _⟩ := J.look
  have r' : Vals (.ref a :: vs) (.ref a :: us) := .cons rfl r
  have hl : (Value.ref a :: us).length = ps.length := by rw [← r'.length]; exact F.len _ _ _ _ q
  have b := hb s (.ref a :: us) kin (by rw [List.append_nil]; exact hl)
  rw [List.append_nil] at b
  exact PySem.W.kco_code (K := K) (C := C) (f := f0) kin J rfl M.at_ M.fn hfn (codeAny_mono (F.run A outer s H ⟨.ref a :: us, []⟩ (.ref a :: us) (.ref a :: vs) Q E hr e0 b r' q) fun _ _ z => z)
end
end LamF

/-! a def that hands back a lambda; defs whose code object is told -/
namespace LamF
open PySem PySem.Spec PyProof.Rows L2 LamX NdefX
theorem cod_eq {K : PySem.W.Frag} {f : Addr} {oc : Value} {od : Option Addr} {osl : Array (Option Value)} {fd : FuncData} {q : Str} (lk : K.lookup f = some ⟨oc, od, .func fd, osl⟩) (hcd : PySem.W.codeIn K fd.code q = true) : fd.code = .ref (codOf K f) := by
  unfold codOf
  rw [lk]
  show fd.code = .ref (match fd.code with
    | .ref c => c
    | _ => 0)
  generalize fd.code = cv at hcd ⊢
  cases cv with
  | ref c => rfl
  | _ => unfold PySem.W.codeIn at hcd; cases hcd
section
variable {P : Program} {w : World} {K : PySem.W.Frag} {mg : Str → Option Value} {base : Heap} {x qual : Str} {params : Arguments} {body : List Stmt} {scope : Scope} {f : Addr} {fd : FuncData} {CX : CXT} {N ps : List Str} {k : Nat} {sp : Sp}
/-- what such a def promises: the function made, its captured names' values -/
structure LmC (H H1 : Hp) (P fl : Addr) (F : LF) (ps0 ps : Array Value) : Prop where
  nf : H fl = none
  src : H F.c = none ∨ ∃ pos, codeAmong pos ps0.toList = some (.ref F.c)
  old : ∀ (pos : Pos) (cv : Value), codeAmong pos ps.toList = some cv → codeAmong pos ps0.toList = some cv ∨ cv = .ref F.c
  tb : H1 P = some (.tbl ps)
  cd : Cds H1 F.qual ps
  ex : ∀ b o, b ≠ P → H b = some o → H1 b = some o
  ceN : ∀ y c, F.cl.lookup y = some c → H c = none
def spLam (Pt : Addr) (q : Str) (lp : Arguments) (lb : Expr) (lsc : Scope) (fr ps : List Str) (ws : List V → List V) : Sp := fun vs H Q _ => vs.length = ps.length ∧ ∃ pst, H Pt = some (.tbl pst) ∧ Cds H q pst ∧
  ∀ fl F H1 pst', F.qual = q → F.params = lp → F.body = lb → F.scope = lsc → LmC H H1 Pt fl F pst pst' → Clos H1 fl F fr (ws vs) → Q (.ref fl) H1
theorem clo_look {cells : List (Str × Addr)} {names : List (Str × NameKind)} {y : Str} {c : Addr} (hy : (y, NameKind.free) ∈ names) (hc : cells.lookup y = some c) : (cloFrom cells names []).lookup y = some c := by
  obtain ⟨c', e⟩ := L2.mem_lookup (cloFrom_has (cells := cells) (acc := []) hy)
  rcases cloFrom_mem (PySem.mem_of_lookup e) with z | ⟨_, z⟩
  · cases z
  · rw [hc] at z
    have z : c' = c := z
    rw [e, z]
theorem clo_sub {cells : List (Str × Addr)} {names : List (Str × NameKind)} {y : Str} {c : Addr} (e : (cloFrom cells names []).lookup y = some c) (h : ∀ y, (y, NameKind.free) ∈ names → ∃ c, cells.lookup y = some c) : (y, NameKind.free) ∈ names ∧ cells.lookup y = some c := by
  rcases cloFrom_mem (PySem.mem_of_lookup e) with z | ⟨z1, z2⟩
  · cases z
  · obtain ⟨c1, e1⟩ := h y z1
    rw [e1] at z2
    have z2 : c = c1 := z2
    rw [z2]
    exact ⟨z1, e1⟩
theorem fn_lam {lp : Arguments} {lb : Expr} {lsc : Scope} {lpos rpos : Pos} {fr : List Str} {Pt : Addr} {ws : List V → List V} (F : FunD K x qual params [.Return (some (.Lambda lp lb lsc lpos)) rpos] scope [] [] f fd) (S : FnScope N ps scope) (TB : TabB base mg (codOf K f) Pt)
    (hdef : ∀ env : Env, defaultsOf lp env = ([], [])) (hfr : ∀ y, (y, NameKind.free) ∈ lsc.names → y ∈ fr) (hfr2 : ∀ y ∈ fr, (y, NameKind.free) ∈ lsc.names ∧ scope.names.lookup y = some .cell) (hl : ∀ vs : List V, vs.length = ps.length → (ws vs).length = fr.length)
    (hws : ∀ (vs : List V), vs.length = ps.length → ∀ (i : Nat) (y : Str), fr[i]? = some y → ∃ (j : Nat) (v : V), ps[j]? = some y ∧ vs[j]? = some v ∧ (ws vs)[i]? = some v) :
    FnOk P w K mg base CX (k + 1) f fd ps (spLam Pt ((envOfC qual scope 0 f (.ref (codOf K f))).qual ++ "<lambda>") lp lb lsc fr ps ws) := by
  obtain ⟨oc, od, dV, kV, doc, pm, an, cdv, ct, osl, rfl, lk, hcd, _, _⟩ := F.ex
  obtain rfl : cdv = .ref (codOf K f) := cod_eq lk hcd
  refine ⟨fun _ _ _ _ h => h.1, fun A outer s H args us vs Q E hr e0 hb r hsp => ?_⟩
  obtain ⟨hlen, pst, hP, hC, fin⟩ := hsp
  have KX : K.In s.heap := e0.mod.kin.keeps fun b o e => (e0.bs b o e).1
  have lim : s.heap.NoLimit := e0.mod.nolimit.keeps fun b o e => (e0.bs b o e).1
  refine codeAny_call_function hr.depth (KX _ _ lk) rfl S.co S.gen rfl (PySem.W.codeRec_of KX hcd) (hb _ _ _ _ ?_)
  refine wpAny_newFunctionEnv_cells S.kind (fun ⟨n, v⟩ hy => (S.par n (List.of_mem_zip hy).1).elim (fun q => .inl q) fun q => .inr ⟨q, PySem.W.cellsFrom_some _ _ _ (.inl q)⟩) fun env he s1 x => ?_
  subst he
  refine ⟨lim.keeps x.toInCall.keep, codeAny_func ?_⟩
  have I : Inv (cxOf CX P w K mg base N qual scope f (.ref (codOf K f)) A outer s H E) [] (L2.start N vs) H s1 := inv_start S hr.hd e0 hlen r x
  have hcells : ∀ y ∈ fr, ∃ c, (cxOf CX P w K mg base N qual scope f (.ref (codOf K f)) A outer s H E).env.cells.lookup y = some c := fun y hy => I.ok.has y (.inl (hfr2 y hy).2)
  have hnm : ∀ y, (y, NameKind.free) ∈ lsc.names → ∃ c, (cxOf CX P w K mg base N qual scope f (.ref (codOf K f)) A outer s H E).env.cells.lookup y = some c := fun y hy => hcells y (hfr y hy)
  have pl := pe_lam (X := cxOf CX P w K mg base N qual scope f (.ref (codOf K f)) A outer s H E) (body := lb) (pos := lpos) TB rfl (hdef _) (scope := lsc) (fun _ y hy e => hnm y.1 (by rw [← e]; exact hy))
  refine wpAny_execs_cons (wpAny_Return_some (thn (pl.run [] s1 _ H (fun v H1 => ∃ fl c' ps', v = .ref fl ∧ Lm H H1 Pt fl ⟨(envOfC qual scope 0 f (.ref (codOf K f))).qual ++ "<lambda>", lp, lb, lsc, cloFrom (cxOf CX P w K mg base N qual scope f (.ref (codOf K f)) A outer s H E).env.cells lsc.names [], c'⟩ pst ps') I ⟨pst, hP, hC, fun fl c' ps' H1 lm => ⟨fl, c', ps', rfl, lm⟩⟩) fun u s' ⟨v, H1, J, rv, fl, c', ps', ev, lm⟩ => ?_))
  subst ev
  have hcf : CelFree (cxOf CX P w K mg base N qual scope f (.ref (codOf K f)) A outer s H E) fr := celFree_of fun _ _ => rfl
  have St := stand_cels J hcf
  have LB := laidBy J hcells (fun y hy z => by
    have z : scope.names.lookup y = some .local := z
    rw [(hfr2 y hy).2] at z
    cases z)
  have nn := LB.nn
  have cge : ∀ y c, (cxOf CX P w K mg base N qual scope f (.ref (codOf K f)) A outer s H E).env.cells.lookup y = some c → s.heap.objs.size ≤ c := fun y c q => J.ok.cab y c rfl q
  have upE : ∀ b o, H1 b = some o → layH (celsOf (cxOf CX P w K mg base N qual scope f (.ref (codOf K f)) A outer s H E) fr s'.heap) H1 b = some o := fun b o e => lay_ex nn e
  refine ⟨.ref fl, layH (celsOf (cxOf CX P w K mg base N qual scope f (.ref (codOf K f)) A outer s H E) fr s'.heap) H1, J.os, J.bare, ⟨J.base.keep, J.base.slot, fun b o e n hx => ?_, J.base.there, fun b xs e => upE _ _ (J.base.tups b xs e), fun b o v e => upE _ _ (J.base.frzs b o v e), fun b qs e => ?_⟩, hok_lay St nn J.hok, rv, ?_⟩
  · cases q : (celsOf (cxOf CX P w K mg base N qual scope f (.ref (codOf K f)) A outer s H E) fr s'.heap).lookup b with
    | none => rw [lay_out q]; exact J.base.free b o e n hx
    | some o2 =>
      obtain ⟨_, y, _, q2⟩ := cels_look q
      exact absurd (Nat.lt_of_lt_of_le (Heap.lt_size e) (cge y b q2)) (Nat.lt_irrefl _)
  · obtain ⟨more, z⟩ := J.base.tbls b qs e
    exact ⟨more, upE _ _ z⟩
  · refine fin fl ⟨(envOfC qual scope 0 f (.ref (codOf K f))).qual ++ "<lambda>", lp, lb, lsc, cloFrom (cxOf CX P w K mg base N qual scope f (.ref (codOf K f)) A outer s H E).env.cells lsc.names [], c'⟩ _ ps' rfl rfl rfl rfl ⟨lm.nf, lm.src, lm.old, upE _ _ lm.tb, ⟨lm.cd.ok, fun p cv e => ?_⟩, fun b o hb e => upE _ _ (lm.ex b o hb e), fun y c e => ?_⟩ ⟨upE _ _ lm.at_, upE _ _ lm.co, fun i y hi => ?_, fun y c e => hfr y (clo_sub e hnm).1, fun a b c e1 e2 => J.ok.inj a b c (clo_sub e1 hnm).2 (clo_sub e2 hnm).2, hl vs hlen⟩
    · obtain ⟨c0, e1, e2⟩ := lm.cd.cd p cv e
      exact ⟨c0, e1, upE _ _ e2⟩
    · exact e0.hok.fresh (cge y c (clo_sub e hnm).2)
    · have hy := List.mem_of_getElem? hi
      obtain ⟨c, o, u, q, lk2, hd, hv⟩ := LB.at_ y hy
      obtain ⟨j, v, hj, hvj, hw⟩ := hws vs hlen i y hi
      have hN : N[j]? = some y := by
        have hjl : j < ps.length := (List.getElem?_eq_some_iff.mp hj).1
        rw [← S.pre, List.getElem?_take_of_lt hjl] at hj
        exact hj
      have hs : (L2.start N vs)[j]? = some (some v) := by
        unfold L2.start
        have hjl : j < vs.length := (List.getElem?_eq_some_iff.mp hvj).1
        rw [List.getElem?_append_left (by simpa using hjl), List.getElem?_map, hvj]
        rfl
      obtain ⟨u', rfl, rv'⟩ := hv j v hN hs (.inr (.inl (hfr2 y hy).2))
      exact ⟨c, o, u', v, clo_look (hfr2 y hy).1 q, lay_in lk2, hd, hw, rv'⟩
end
end LamF

/-! things that are asked: functions and objects called with a name; what they change is a state -/
namespace Sim
open PySem PySem.Spec PyProof.Rows L2 Evl LamX LamF NdefX
/-! ### asked -/
section
variable (P : Program) (w : World) (K : PySem.W.Frag) (mg : Str → Option Value) (base : Heap) (k : Nat)
end
section
variable {P : Program} {w : World} {K : PySem.W.Frag} {mg : Str → Option Value} {base : Heap} {k kk : Nat} {κ : Type} {ci : κ → Cs}
theorem AskP.lev {ask : κ → Str → Option (Int × κ)} {G : Hp} {f : Addr} (a : AskP P w K mg base k G f ci ask) (h : k ≤ kk) : AskP P w K mg base kk G f ci ask := ⟨a.cb, a.ok.mono h, a.fx⟩
theorem AskX.lev {ask : κ → Str → Option ((Xn ⊕ Int) × κ)} {G : Hp} {f : Addr} (a : AskX P w K mg base k G f ci ask) (h : k ≤ kk) : AskX P w K mg base kk G f ci ask := ⟨a.cb, a.ok.mono h, a.fx⟩
variable {G0 H0 G H G2 H2 : Hp} {ls : List Addr} {cs : Cs} {f : Addr} {X : Cx} {σ : L2.St} {i : Nat} {CX : CXT}
/-- the tail of the cells changes -/
theorem Wo.tailW {a a' : Cs} (w : Wo G0 H0 ls G H (cs ++ a)) (fr : Fr G H G2 H2 (a.map (·.1))) (w2 : Wd G2 H2 a') (e : a'.map (·.1) = a.map (·.1)) : Wo G0 H0 ls G2 H2 (cs ++ a') := by
  have nd : (cs.map (·.1) ++ a.map (·.1)).Nodup := by have := w.w.nd; rw [List.map_append] at this; exact this
  refine ⟨⟨w2.ex, fun c h => ?_, by rw [List.map_append, e]; exact nd⟩, ?_, fun c h => ?_⟩
  · rcases List.mem_append.mp h with h | h
    · obtain ⟨h1, o, h2, h3⟩ := w.w.app.1.at_ c h
      have hn : c.1 ∉ a.map (·.1) := fun z => (List.nodup_append.mp nd).2.2 _ (List.mem_map_of_mem h) _ z rfl
      exact ⟨fr.nw _ (by rw [h2]; simp) h1, o, fr.fr _ _ h2 hn, c.2.mono fr.gg h3⟩
    · exact w2.at_ c h
  · refine ⟨w.f.gg.trans fr.gg, fun x o h1 h2 => ?_, fun x h1 h2 => fr.nw x (w.f.st x h1) (w.f.nw x h1 h2), fun x h => fr.st x (w.f.st x h)⟩
    refine fr.fr x o (w.f.fr x o h1 h2) fun hx => ?_
    obtain ⟨c, hc, rfl⟩ := List.mem_map.mp hx
    rcases w.lo c (List.mem_append_right _ hc) with z | z
    · exact h2 z
    · rw [z] at h1; cases h1
  · rcases List.mem_append.mp h with h | h
    · exact w.lo c (List.mem_append_left _ h)
    · have : c.1 ∈ a.map (·.1) := by rw [← e]; exact List.mem_map_of_mem h
      obtain ⟨c0, hc0, e0⟩ := List.mem_map.mp this
      have := w.lo c0 (List.mem_append_right _ hc0)
      rw [e0] at this
      exact this
theorem Wo.tailD {a : Cs} (w : Wo G0 H0 ls G H (cs ++ a)) : Wd G H a := w.w.app.2
theorem c_askX {ask : κ → Str → Option ((Xn ⊕ Int) × κ)} {s s' : κ} {nm : Str} {r : Xn ⊕ Int} {Q : VK} {E : XK} (w' : Wo G0 H0 ls G H (cs ++ ci s)) (A : AskX P w K mg base k G0 f ci ask) (hz : ask s nm = some (r, s'))
    (kx : ∀ e, r = .inl e → ∀ d H2 G2, Wo G0 H0 ls G2 H2 (cs ++ ci s') → Ex G G2 → Xat G2 e d → E (.ref (He.ga K e.cls)) (some d) H2)
    (kq : ∀ x, r = .inr x → ∀ H2 G2, Wo G0 H0 ls G2 H2 (cs ++ ci s') → Ex G G2 → Q (.int x) H2) : (∀ o, G0 f = some o → H f = some o) ∧ ∃ sp, CalOk P w K mg base (L2.CX P w) k f sp ∧ sp [.str nm] H Q E :=
  ⟨fun o h => w'.ex _ _ (w'.f.gg _ _ h), _, A.ok, G, s, nm, r, s', rfl, w'.f.gg, w'.tailD, hz, fun e he d H2 G2 fr w2 xa => kx e he d H2 G2 (w'.tailW fr w2 (A.fx s' s)) fr.gg xa, fun x hx H2 G2 fr w2 => kq x hx H2 G2 (w'.tailW fr w2 (A.fx s' s)) fr.gg⟩
end
/-! ### defs that ask -/
section
variable (P : Program) (w : World) (K : PySem.W.Frag) (mg : Str → Option Value) (base : Heap) (k : Nat)
def PKx {ι γ : Type} (A : AR ι) (R : Rep γ) (f : ∀ {κ : Type}, (κ → Str → Option ((Xn ⊕ Int) × κ)) → ι → κ → Option ((Xn ⊕ γ) × κ)) : Sp := fun vs H Q E => ∃ (κ : Type) (ci : κ → Cs) (ask : κ → Str → Option ((Xn ⊕ Int) × κ)) (G : Hp) (ws : List V) (fk : Addr) (i : ι) (s : κ) (r : Xn ⊕ γ) (s' : κ),
  vs = ws ++ [.ref fk] ∧ A.r G ws i ∧ AskX P w K mg base k G fk ci ask ∧ Wd G H (ci s) ∧ f ask i s = some (r, s') ∧
  (∀ e, r = .inl e → ∀ d H2 G2, Fr G H G2 H2 ((ci s).map (·.1)) → Wd G2 H2 (ci s') → Xat G2 e d → E (.ref (He.ga K e.cls)) (some d) H2) ∧ ∀ x, r = .inr x → ∀ v H2 G2, Fr G H G2 H2 ((ci s).map (·.1)) → Wd G2 H2 (ci s') → R.r G2 v x → Q v H2
end
/-! ### a function made by a lambda and handed over at once -/
/-- what stands below a heap without the laid cells -/
class Dn {α : Type} (R : Rep α) : Prop where
  dn : ∀ {G : Hp} {cs : List (Addr × Obj)} {v : V} {x : α}, (∀ c o, cs.lookup c = some o → G c = some (CelO o)) → R.r G v x → R.r (unlayH cs G) v x
theorem dn_at {G : Hp} {cs : List (Addr × Obj)} {a : Addr} {o : HO} (hl : ∀ c o, cs.lookup c = some o → G c = some (CelO o)) (n : ∀ o', o ≠ CelO o') (h : G a = some o) : unlayH cs G a = some o := by
  cases q : cs.lookup a with
  | none => rw [unlay_out q]; exact h
  | some o' => rw [hl a o' q] at h; exact absurd (Option.some.inj h).symm (n o')
instance : Dn rI := ⟨fun _ h => h⟩
instance : Dn rS := ⟨fun _ h => h⟩
instance : Dn rB := ⟨fun _ h => h⟩
instance : Dn rU := ⟨fun _ h => h⟩
instance : Dn rA := ⟨fun _ h => h⟩
instance {α β : Type} {R : Rep α} {S : Rep β} [Dn R] [Dn S] : Dn (rP R S) := ⟨fun hl ⟨a, x, y, h1, h2, h3, h4⟩ => ⟨a, x, y, h1, dn_at hl (fun _ z => by cases z) h2, Dn.dn hl h3, Dn.dn hl h4⟩⟩
instance {α : Type} {R : Rep α} [Dn R] : Dn (rL R) := ⟨fun hl ⟨a, vs, h1, h2, h3⟩ => ⟨a, vs, h1, dn_at hl (fun _ z => by cases z) h2, Paired.mapP h3 fun _ _ => Dn.dn hl⟩⟩
instance {α : Type} {R : Rep α} [Dn R] : Dn (rT R) := ⟨fun hl ⟨a, vs, h1, h2, h3⟩ => ⟨a, vs, h1, dn_at hl (fun _ z => by cases z) h2, Paired.mapP h3 fun _ _ => Dn.dn hl⟩⟩
section
variable {G0 H0 G H G2 H2 : Hp} {ls : List Addr} {cs : Cs} {cels : List (Addr × Obj)}
end
section
variable {G0 H0 G H H1 : Hp} {ls : List Addr} {cs : Cs} {Pt fl : Addr} {F : LF} {ps0 ps : Array Value} {j : Nat} {q : Str}
/-- the codes of the table, told of the data heap -/
theorem cds_made (w : Wo G0 H0 ls G H cs) (hc : cs[j]? = some (Pt, cTab q)) (h0 : H Pt = some (.tbl ps0)) (ok : TriplesOk ps.toList) (co : H1 F.c = some (CodeO F.c q)) (src : H F.c = none ∨ ∃ pos, codeAmong pos ps0.toList = some (.ref F.c))
    (old : ∀ (pos : Pos) (cv : Value), codeAmong pos ps.toList = some cv → codeAmong pos ps0.toList = some cv ∨ cv = .ref F.c) : Cds (lamG G H H1) q ps ∧ lamG G H H1 F.c = some (CodeO F.c q) := by
  obtain ⟨gP, oP, hP, ps1, rfl, c1⟩ := w.w.getAt hc
  rw [h0] at hP
  cases hP
  have old2 : ∀ (p : Pos) (cv : Value), codeAmong p ps0.toList = some cv → ∃ c, cv = .ref c ∧ lamG G H H1 c = some (CodeO c q) := fun p cv e => by
    obtain ⟨c, e1, e2⟩ := c1.cd p cv e
    exact ⟨c, e1, by rw [lamG_old (w.ex _ _ e2)]; exact e2⟩
  have cc : lamG G H H1 F.c = some (CodeO F.c q) := by
    rcases src with z | ⟨p, z⟩
    · rw [lamG_new z]; exact co
    · obtain ⟨c, e1, e2⟩ := old2 p _ z
      cases e1
      exact e2
  refine ⟨⟨ok, fun p cv e => ?_⟩, cc⟩
  rcases old p cv e with z | z
  · exact old2 p cv z
  · exact ⟨_, z, cc⟩
end
end Sim

/-! x = f(.., lambda ..): the function asks a list of the def's own -/
namespace Sim
open PySem PySem.Spec PyProof.Rows L2 Evl LamX LamF NdefX
section
variable {X : Cx} {kk : Nat} {σ : L2.St} {G0 H0 G H : Hp} {ls : List Addr} {cs : Cs} {ta : TA} {ι α γ : Type} {A : AR ι} {R : Rep γ} {Ra : Rep α} {D : Ends} {tz : TS}
end
end Sim

/-! calls that change cells at any places; the tail of the cells; lambdas handed over, printed by gen.py -/
namespace Sim
open PySem PySem.Spec PyProof.Rows L2 Evl LamX LamF NdefX
/-- the cells at these places -/
def SelJ (cs : Cs) : List Nat → Cs → Prop
  | [], [] => True
  | j :: js, c :: a => cs[j]? = some c ∧ SelJ cs js a
  | _, _ => False
def putJ (cs : Cs) : List Nat → Cs → Cs
  | j :: js, c :: a => (putJ cs js a).set j c
  | _, _ => cs
theorem selJ_mem {cs : Cs} : ∀ {js : List Nat} {a : Cs}, SelJ cs js a → ∀ c ∈ a, ∃ j ∈ js, cs[j]? = some c
  | [], [], _, c, h => nomatch h
  | j :: js, d :: a, ⟨h1, h2⟩, c, h => by
    rcases List.mem_cons.mp h with rfl | h
    · exact ⟨j, List.mem_cons_self .., h1⟩
    · obtain ⟨i, hi, e⟩ := selJ_mem h2 c h
      exact ⟨i, List.mem_cons_of_mem _ hi, e⟩
theorem selJ_nd {cs : Cs} (nd : (cs.map (·.1)).Nodup) : ∀ {js : List Nat} {a : Cs}, js.Nodup → SelJ cs js a → (a.map (·.1)).Nodup
  | [], [], _, _ => List.nodup_nil
  | j :: js, c :: a, hn, ⟨h1, h2⟩ => by
    refine List.nodup_cons.mpr ⟨fun z => ?_, selJ_nd nd (List.nodup_cons.mp hn).2 h2⟩
    obtain ⟨d, hd, e⟩ := List.mem_map.mp z
    obtain ⟨i, hi, e2⟩ := selJ_mem h2 d hd
    have a1 : (cs.map (·.1))[j]? = some c.1 := by rw [List.getElem?_map, h1]; rfl
    have a2 : (cs.map (·.1))[i]? = some c.1 := by rw [List.getElem?_map, e2]; exact congrArg some e
    have := nodup_ix nd a1 a2
    subst this
    exact (List.nodup_cons.mp hn).1 hi
theorem selJ_wd {G H : Hp} {cs a : Cs} {js : List Nat} (w : Wd G H cs) (hn : js.Nodup) (h : SelJ cs js a) : Wd G H a :=
  ⟨w.ex, fun c hc => let ⟨_, _, e⟩ := selJ_mem h c hc; w.at_ c (List.mem_of_getElem? e), selJ_nd w.nd hn h⟩
theorem putJ_map {cs : Cs} : ∀ {js : List Nat} {a a' : Cs}, SelJ cs js a → a'.map (·.1) = a.map (·.1) → (putJ cs js a').map (·.1) = cs.map (·.1)
  | [], [], [], _, _ => rfl
  | j :: js, c :: a, d :: a', ⟨h1, h2⟩, e => by
    obtain ⟨e1, e2⟩ := List.cons.inj e
    have ih := putJ_map h2 e2
    show ((putJ cs js a').set j d).map (·.1) = _
    rw [List.map_set, ih]
    refine List.ext_getElem? fun n => ?_
    rw [List.getElem?_set]
    split
    · rename_i h
      subst h
      have a1 : (cs.map (·.1))[j]? = some c.1 := by rw [List.getElem?_map, h1]; rfl
      rw [a1]
      have : j < (cs.map (·.1)).length := (List.getElem?_eq_some_iff.mp a1).1
      rw [if_pos this]
      exact congrArg some e1
    · rfl
  | [], [], _ :: _, _, e => by cases e
  | _ :: _, _ :: _, [], _, e => by cases e
theorem putJ_at {cs : Cs} : ∀ {js : List Nat} {a' : Cs} {n : Nat} {c : Addr × CP}, js.length = a'.length → (putJ cs js a')[n]? = some c → c ∈ a' ∨ (n ∉ js ∧ cs[n]? = some c)
  | [], [], n, c, _, h => .inr ⟨by simp, h⟩
  | j :: js, d :: a', n, c, e, h => by
    have h : ((putJ cs js a').set j d)[n]? = some c := h
    rw [List.getElem?_set] at h
    split at h
    · rename_i q
      split at h
      · cases h; exact .inl (List.mem_cons_self ..)
      · cases h
    · rename_i q
      rcases putJ_at (by simpa using e) h with z | ⟨z1, z2⟩
      · exact .inl (List.mem_cons_of_mem _ z)
      · exact .inr ⟨fun z => by
          rcases List.mem_cons.mp z with z | z
          · exact q z.symm
          · exact z1 z, z2⟩
  | [], _ :: _, _, _, e, _ => by cases e
  | _ :: _, [], _, _, e, _ => by cases e
theorem selJ_len {cs : Cs} : ∀ {js : List Nat} {a : Cs}, SelJ cs js a → js.length = a.length
  | [], [], _ => rfl
  | _ :: _, _ :: _, ⟨_, h⟩ => congrArg (· + 1) (selJ_len h)
section
variable {σ : L2.St} {G0 H0 G H G2 H2 : Hp} {ls : List Addr} {cs : Cs}
/-- behind a call that changed the cells at these places -/
theorem Wo.callJ {a a' : Cs} {js : List Nat} (w : Wo G0 H0 ls G H cs) (hn : js.Nodup) (hs : SelJ cs js a) (fr : Fr G H G2 H2 (a.map (·.1))) (w2 : Wd G2 H2 a') (e : a'.map (·.1) = a.map (·.1)) : Wo G0 H0 ls G2 H2 (putJ cs js a') := by
  have hm := putJ_map hs e
  have el : js.length = a'.length := by
    rw [selJ_len hs]
    have := congrArg List.length e
    simpa using this.symm
  have key : ∀ c ∈ putJ cs js a', c ∈ a' ∨ (c ∈ cs ∧ c.1 ∉ a.map (·.1)) := fun c hc => by
    obtain ⟨n, hn'⟩ := List.getElem?_of_mem hc
    rcases putJ_at el hn' with z | ⟨z1, z2⟩
    · exact .inl z
    · refine .inr ⟨List.mem_of_getElem? z2, fun q => ?_⟩
      obtain ⟨d, hd, e1⟩ := List.mem_map.mp q
      obtain ⟨i, hi, e2⟩ := selJ_mem hs d hd
      have a1 : (cs.map (·.1))[n]? = some c.1 := by rw [List.getElem?_map, z2]; rfl
      have a2 : (cs.map (·.1))[i]? = some c.1 := by rw [List.getElem?_map, e2]; exact congrArg some e1
      have := nodup_ix w.w.nd a1 a2
      subst this
      exact z1 hi
  refine ⟨⟨w2.ex, fun c hc => ?_, by rw [hm]; exact w.w.nd⟩, ?_, fun c hc => ?_⟩
  · rcases key c hc with z | ⟨z1, z2⟩
    · exact w2.at_ c z
    · obtain ⟨h1, o, h2, h3⟩ := w.w.at_ c z1
      exact ⟨fr.nw _ (by rw [h2]; simp) h1, o, fr.fr _ _ h2 z2, c.2.mono fr.gg h3⟩
  · refine ⟨w.f.gg.trans fr.gg, fun x o h1 h2 => ?_, fun x h1 h2 => fr.nw x (w.f.st x h1) (w.f.nw x h1 h2), fun x h => fr.st x (w.f.st x h)⟩
    refine fr.fr x o (w.f.fr x o h1 h2) fun hx => ?_
    obtain ⟨c, hc, rfl⟩ := List.mem_map.mp hx
    obtain ⟨_, _, e2⟩ := selJ_mem hs c hc
    rcases w.lo c (List.mem_of_getElem? e2) with z | z
    · exact h2 z
    · rw [z] at h1; cases h1
  · have : c.1 ∈ cs.map (·.1) := by rw [← hm]; exact List.mem_map_of_mem hc
    obtain ⟨d, hd, e1⟩ := List.mem_map.mp this
    have := w.lo d hd
    rw [e1] at this
    exact this
theorem c_pmJ {ι κ α : Type} {A : AR ι} {ci : ι → κ → Cs} {R : Rep α} {f : ι → κ → Option (α × κ)} {vs : List V} {i : ι} {s s' : κ} {x : α} {Q : VK} {X : XK} (js : List Nat) (w : Wo G0 H0 ls G H cs) (hs : SelJ cs js (ci i s)) (hv : A.r G vs i) (hz : f i s = some (x, s')) (e : (ci i s').map (·.1) = (ci i s).map (·.1))
    (k : ∀ v H2 G2, Wo G0 H0 ls G2 H2 (putJ cs js (ci i s')) → Ex G G2 → R.r G2 v x → Q v H2) (hn : js.Nodup := by decide) : PM A ci R f vs H Q X :=
  ⟨G, i, s, x, s', hv, selJ_wd w.w hn hs, hz, fun v H2 G2 fr w2 r => k v H2 G2 (w.callJ hn hs fr w2 e) fr.gg r⟩
/-- no answer but the value -/
def uM {α : Type} (m : Option α) : Option (α × Unit) := m.map fun x => (x, ())
theorem uM_of {α : Type} {m : Option α} {x : α} {u : Unit} (h : uM m = some (x, u)) : m = some x := by
  unfold uM at h
  cases m with
  | none => cases h
  | some y => cases h; rfl
theorem uM_to {α : Type} {m : Option α} {x : α} (h : m = some x) : uM m = some (x, ()) := by rw [h]; rfl
/-! ### the tail -/
theorem Wd.dropN (w : Wd G H cs) (n : Nat) : Wd G H (cs.drop n) := ⟨w.ex, fun c h => w.at_ c (List.mem_of_mem_drop h), by rw [List.map_drop]; exact w.nd.sublist (List.drop_sublist _ _)⟩
variable {P : Program} {w : World} {K : PySem.W.Frag} {mg : Str → Option Value} {base : Heap} {k : Nat} {κ : Type} {ci : κ → Cs} {f : Addr}
theorem take_drop_eq {cs a : Cs} {n : Nat} (hc : cs.drop n = a) : cs = cs.take n ++ a := by rw [← hc, List.take_append_drop]
theorem o_askN {X : Cx} {CX : CXT} {i : Nat} {E : L2.St → XK} {t : TA} {Q : VK} (wq : Wo G0 H0 ls G H cs) (hi : σ[i]? = some (some (.ref f))) (c : Cb G0 f) (h : t σ H fun vs H1 => Cb2 H H1 f ∧ ∃ sp, CalOk X.prog X.w X.K X.mg X.base CX k f sp ∧ sp vs H1 Q (E σ)) : tCallV X CX k i E t σ H Q :=
  ⟨f, hi, cb_mono (wq.f.gg.trans wq.ex) c, h⟩
theorem cb2_of {Gq Hq : Hp} {csq : Cs} (wq : Wo G0 H0 ls Gq Hq csq) (w' : Wo G0 H0 ls G H cs) (c : Cb G0 f) : Cb2 Hq H f := by
  have e1 : Ex G0 Hq := wq.f.gg.trans wq.ex
  have e2 : Ex G0 H := w'.f.gg.trans w'.ex
  refine ⟨fun F hF => ?_, fun C dx fs hF => ?_⟩
  · rcases c with ⟨F2, z⟩ | ⟨C, dx, fs, z⟩
    · rw [e1 _ _ z] at hF
      rw [← hF]
      exact e2 _ _ z
    · rw [e1 _ _ z] at hF
      cases hF
  · rcases c with ⟨F2, z⟩ | ⟨C2, dx2, fs2, z⟩
    · rw [e1 _ _ z] at hF
      cases hF
    · rw [e1 _ _ z] at hF
      cases hF
      exact ⟨_, e2 _ _ z⟩
/-- names of the lambda's own, told as a test -/
theorem frees_sub {ns : List (Str × NameKind)} {fr : List Str} (h : (ns.all fun p => !decide (p.2 = NameKind.free) || decide (p.1 ∈ fr)) = true) (y : Str) (hy : (y, NameKind.free) ∈ ns) : y ∈ fr := by
  have := List.all_eq_true.mp h _ hy
  simpa using this
theorem frees_in {ns : List (Str × NameKind)} {fr : List Str} (h : (fr.all fun y => decide ((y, NameKind.free) ∈ ns)) = true) (y : Str) (hy : y ∈ fr) : (y, NameKind.free) ∈ ns := of_decide_eq_true (List.all_eq_true.mp h _ hy)
end
end Sim

/-! the hook with tables of code objects; the law's end with tables -/
namespace Sim
open PySem PySem.Spec PyProof.Rows L2 Evl LamX LamF NdefX
/-- what the law's def promises over the tables -/
abbrev PTm {ι α : Type} (tb : Cs) (A : AR ι) (R : Rep α) (f : ι → Option α) : Sp := PM A (fun _ (_ : Unit) => tb) R fun i _ => uM (f i)
theorem tb_start {K : PySem.W.Frag} {tf : List TbD} {H : Hp} (nd : (tf.map fun p => (p.c K).2).Nodup) (hH : ∀ p ∈ tf.map (TbD.c K), H p.2 = some (.tbl #[])) :
    Wd (fun a => if a ∈ tf.map (fun p => (p.c K).2) then none else H a) H (tf.map (TbD.cel K)) := by
  refine ⟨fun a o h => ?_, fun c hc => ?_, ?_⟩
  · by_cases z : a ∈ tf.map fun p => (p.c K).2
    · rw [if_pos z] at h; cases h
    · rw [if_neg z] at h; exact h
  · obtain ⟨d, hd, rfl⟩ := List.mem_map.mp hc
    refine ⟨if_pos (List.mem_map.mpr ⟨d, hd, rfl⟩), _, hH (d.c K) (List.mem_map_of_mem hd), #[], rfl, ⟨?_, fun p cv h => by cases h⟩⟩
    exact trivial
  · rw [List.map_map]
    exact nd
theorem sql_tb {K : PySem.W.Frag} {tf : List TbD} {H : Hp} {a : Addr} {ys : List V} (hH : ∀ p ∈ tf.map (TbD.c K), H p.2 = some (.tbl #[])) (h : SqL K H a ys) : SqL K (fun a => if a ∈ tf.map (fun p => (p.c K).2) then none else H a) a ys := by
  have hn : ∀ o, H a = some o → (∀ ps, o ≠ .tbl ps) → a ∉ tf.map (fun p => (p.c K).2) := fun o e n z => by
    obtain ⟨d, hd, e2⟩ := List.mem_map.mp z
    have := hH (d.c K) (List.mem_map_of_mem hd)
    rw [show (d.c K).2 = a from e2, e] at this
    exact n #[] (Option.some.inj this)
  rcases h with h | h
  · refine .inl ?_
    rcases h with h | ⟨o, h⟩
    · refine .inl ?_
      show (if _ then _ else _) = _
      rw [if_neg (hn _ h fun _ z => by cases z)]
      exact h
    · refine .inr ⟨o, ?_⟩
      show (if _ then _ else _) = _
      rw [if_neg (hn _ h fun _ z => by cases z)]
      exact h
  · exact .inr h
/-- the law's end with tables -/
theorem lawT {l : PySem.W.OpenLaw} {w : World} {K : PySem.W.Frag} {k n : Nat} {x : Str} {mg : Str → Option Value} {fa : List He.Fa} {fn : List He.DefD} {es : List (PySem.W.Frag → Bool)} {xs : List XcD} {gs : List GeD} {sp : List SpD} {tf : List TbD} {file : Str} {h : Heap} {f : Addr} {fd : FuncData} {m : List Int → Option Bool} (KX : K.In h) (c : SaysT fa fn es xs gs sp tf file h K)
    (hb : ∀ (s : Shared) (u : Value), BindsTo s fd ⟨[u], []⟩ [(x, u)]) (hm : ∀ ns, m ns = some true) (hF : ∀ base : Heap, (∀ p ∈ tf, TabB base mg (p.c K).1 (p.c K).2) → FnOk l.prog w K mg base L2.CX0 k f fd [x] (PTm (tf.map (TbD.cel K)) (aC (rScr K) aN) rB fun i => m i.1)) : LawAtS l w K L2.CX0 k n x mg f h := by
  refine ⟨fd, tf.map (TbD.c K), _, fun p hp => ?_, fun p hp => ?_, fun p hp => ?_, hb, fun H a ns hl hbits hH hS => ?_, fun base hK hns hT => hF base fun p hp => hT (p.c K) (List.mem_map_of_mem hp)⟩
  · obtain ⟨d, hd, rfl⟩ := List.mem_map.mp hp
    exact c.empty d hd
  · obtain ⟨d, hd, rfl⟩ := List.mem_map.mp hp
    exact c.out d hd
  · obtain ⟨d, hd, rfl⟩ := List.mem_map.mp hp
    exact PySem.W.codeHd_of_K KX (c.hd d hd)
  · exact ⟨_, (ns, ()), (), true, (), ⟨.ref a, [], rfl, ⟨a, rfl, sql_tb hH hS⟩, rfl⟩, tb_start c.nd hH, uM_to (hm ns), fun v H2 G2 fr w2 hv => hv⟩
end Sim

/-! a for over a list that is a cell and stays as it is; and in a test that changes cells -/
namespace Sim
open PySem L2 Evl
def cF {α : Type} (vs : List V) (R : Rep α) (xs : List α) : CP := ⟨fun G o => o = .lst vs ∧ Paired (R.r G) vs xs, fun e ⟨h1, h2⟩ => ⟨h1, Paired.mapP h2 fun _ _ => R.mono e⟩⟩
section
variable {K : PySem.W.Frag} {σ : L2.St} {G0 H0 G H G2 H2 : Hp} {ls : List Addr} {cs : Cs} {l : Addr} {cp cp' : CP} {tu tz : TS} {t u : TT} {g : TG} {D : Ends} {α : Type} {R : Rep α}
theorem Wo.reAt {j : Nat} (w : Wo G0 H0 ls G H cs) (h : cs[j]? = some (l, cp)) (k : ∀ o, H l = some o → cp.p G o → cp'.p G o) : Wo G0 H0 ls G H (cs.set j (l, cp')) := by
  have hm : (cs.set j (l, cp')).map (·.1) = cs.map (·.1) := set_map (c := (l, cp)) h
  have key : ∀ c ∈ cs.set j (l, cp'), c = (l, cp') ∨ c ∈ cs := fun c hc => (List.mem_or_eq_of_mem_set hc).elim .inr .inl
  have lm : (l, cp) ∈ cs := List.mem_of_getElem? h
  refine ⟨⟨w.ex, fun c hc => ?_, by rw [hm]; exact w.w.nd⟩, w.f, fun c hc => ?_⟩
  · rcases key c hc with rfl | z
    · obtain ⟨h1, o, h2, h3⟩ := w.w.at_ _ lm
      exact ⟨h1, o, h2, k o h2 h3⟩
    · exact w.w.at_ c z
  · rcases key c hc with rfl | z
    · show l ∈ ls ∨ H0 l = none
      exact w.lo (l, cp) lm
    · exact w.lo c z
theorem Wo.fixAt {j : Nat} {xs : List α} (w : Wo G0 H0 ls G H cs) (h : cs[j]? = some (l, cL R xs)) : ∃ vs, Wo G0 H0 ls G H (cs.set j (l, cF vs R xs)) := by
  obtain ⟨h1, o, h2, vs, rfl, h4⟩ := w.w.getAt h
  exact ⟨vs, w.reAt h fun o e _ => by rw [h2] at e; cases e; exact ⟨rfl, h4⟩⟩
theorem Wo.unfixAt {j : Nat} {vs : List V} {xs : List α} (w : Wo G0 H0 ls G H cs) (h : cs[j]? = some (l, cF vs R xs)) : Wo G0 H0 ls G H (cs.set j (l, cL R xs)) := w.reAt h fun o _ ⟨e, z⟩ => ⟨vs, e, z⟩
theorem x_forC {i j : Nat} {vs : List V} {xs : List α} (w : Wo G0 H0 ls G H cs) (hj : cs[j]? = some (l, cF vs R xs)) (hi : σ[i]? = some (some (.ref l))) (P : Nat → Hp → Hp → L2.St → Prop) (hP : ∀ i G' H' σ', P i G' H' σ' → ∃ cs', Wo G0 H0 ls G' H' cs' ∧ cs'[j]? = some (l, cF vs R xs))
    (h0 : P 0 G H σ)
    (hs : ∀ i x v σ' G' H', xs[i]? = some x → P i G' H' σ' → R.r G' v x → g v σ' H' fun σ2 H2 => tu { D with nx := fun σ' H' => ∃ G', P (i + 1) G' H' σ', ct := fun σ' H' => ∃ G', P (i + 1) G' H' σ', bk := tz D } σ2 H2)
    (hd : ∀ σ' G' H', P xs.length G' H' σ' → tz D σ' H') : tSeq (tFor (iList K (tVar i)) g tu) tz D σ H := by
  obtain ⟨_, o, h2, rfl, h3⟩ := w.w.getAt hj
  refine ⟨.ref l, hi, l, rfl, ⟨vs, Or.inl (Or.inl h2)⟩, for_list (K := K) (a := l) (xs := vs) (D := { D with nx := tz D }) (fun i σ' H' => ∃ G', P i G' H' σ') ⟨G, h0⟩ ?_ ?_ ?_⟩
  · rintro i σ' H' _ ⟨G', p⟩
    obtain ⟨cs', w', hj'⟩ := hP _ _ _ _ p
    obtain ⟨_, o, h2', rfl, _⟩ := w'.w.getAt hj'
    exact Or.inl (Or.inl h2')
  · rintro i y σ' H' hy ⟨G', p⟩
    obtain ⟨cs', w', hj'⟩ := hP _ _ _ _ p
    obtain ⟨_, o, h2', rfl, h3'⟩ := w'.w.getAt hj'
    obtain ⟨x, hx, r⟩ := pr_get' h3' hy
    exact hs i x y σ' G' H' hx p r
  · rintro σ' H' ⟨G', p⟩
    rw [h3.length] at p
    exact hd σ' G' H' p
end
end Sim

/-! sides: values that are called with what is asked -/
namespace LamF
open PySem PySem.Spec PyProof.Rows L2 LamX NdefX
section
variable {X : Cx} {CX : CXT} {k : Nat} {pins : List (Addr × Obj)} {σ : L2.St} {H : Hp} {s : Shared} {a C dx : Addr} {fs : List (Str × V)} {v : V} {A : Around} {E : Value → Shared → Prop}
theorem getval_ok {m : Str} {pl : Sem Bool} {Q : Value × List Value → Shared → Prop} (I : Inv X pins σ H s) (e : H a = some (.ins C dx fs)) (c : Cls X.K C) (n : NoAttr X.K C m) (l : fs.lookup m = some v)
    (h : ∀ u s', Inv X pins σ H s' → RelV v u → Q (u, []) s') : wpAny (model X.prog X.w) A (getMethod (.ref a) m pl) Q E s := by
  obtain ⟨mA, O, r, _, _, _⟩ := ins_get I.hok e
  obtain ⟨od, J, hl⟩ := O.look
  exact PySem.W.method_usual I.kIn J (PySem.W.plainGet_of (c.get m)).1 (PySem.W.plainGet_of (c.get m)).2 n rfl (getattr_ok I e c n l fun u s' I' r' => h u s' I' r')
def Cbk2 (K : PySem.W.Frag) (H H1 : Hp) (f : Addr) : Prop := (Cb H f ∧ Cb2 H H1 f) ∨ PySem.W.keepIn K (.ref f) = true
/-- what is called stands -/
theorem call_cbk {Ez : L2.St → XK} {f : Addr} {e : Expr} {es : List Expr} {pos : Pos} {t : TA} {Q : VK} (hr : Room k X.A) (hx : ∀ σ, PassesAt CX X σ (Ez σ)) (ha : PA X (e :: es) t) (I : Inv X pins σ H s) (hc : Cbk X.K H f)
    (q : t σ H fun vs H2 => Cbk2 X.K H H2 f ∧ ∃ sp, CalOk X.prog X.w X.K X.mg X.base CX k f sp ∧ sp vs H2 Q (Ez σ))
    (hst : starEach (e :: es) X.env = (false, eval e X.env) :: starEach es X.env) (hpl : (backTo pos (starEach es X.env)).any (·.1) = false) :
    wpAny (model X.prog X.w) X.A (callWith pos (.ref f) [] (backTo pos (starEach (e :: es) X.env)) []) (EP X pins σ Q) X.xe s := by
  have tail : ∀ us s3 vs H3, Inv X pins σ H3 s3 → Vals vs us → (∃ sp, CalOk X.prog X.w X.K X.mg X.base CX k f sp ∧ sp vs H3 Q (Ez σ)) → wpAny (model X.prog X.w) X.A (call (.ref f) us) (EP X pins σ Q) X.xe s3 := fun us s3 vs H3 I3 r ⟨sp, ok, q⟩ => by
    refine wpAny_call (codeAny_mono (ok X.A X.stack s3 H3 us vs Q (Ez σ) hr I3.env0 r q) fun rr s' hq => ?_)
    cases rr with
    | error ev => exact hx σ pins H3 s3 ev s' I3 hq
    | ok fl =>
      cases fl with
      | ret u => exact I3.after hq
      | next => exact False.elim hq
      | brk => exact False.elim hq
      | cont => exact False.elim hq
  by_cases hk : PySem.W.keepIn X.K (.ref f) = true
  · exact PySem.W.callWith_K (first := []) (h₀ := X.base) I.ok.mod.kin hk (thn (ha.run pos pins s σ H _ I q) fun us s3 ⟨vs, H3, I3, r, _, q⟩ => ⟨I3.kIn, tail us s3 vs H3 I3 r q⟩) hst hpl
  · rcases hc with (⟨F, hF⟩ | ⟨C2, dx2, fs2, hF⟩) | hc
    · obtain ⟨⟨pm, ctv, ho⟩, _, _⟩ := I.hok f _ hF
      refine PySem.W.callWith_F (first := []) ⟨_, _, _, _, ho⟩ (thn (ha.run pos pins s σ _ _ I q) fun us s3 ⟨vs, H3, I3, r, hc2, q⟩ => ⟨?_, tail us s3 vs H3 I3 r q⟩) hst hpl
      rcases hc2 with ⟨_, hc2⟩ | hc2
      · obtain ⟨⟨pm, ctv, ho⟩, _, _⟩ := I3.hok f _ (hc2.1 F hF)
        exact ⟨_, _, _, _, ho⟩
      · exact absurd hc2 hk
    · refine PySem.W.kcoX_callWith (ox := PySem.W.instObj C2 dx2) (C := C2) rfl (thn (ha.run pos pins s σ _ _ I q) fun us s3 ⟨vs, H3, I3, r, hc2, q⟩ => ⟨?_, tail us s3 vs H3 I3 r q⟩) hst hpl
      rcases hc2 with ⟨_, hc2⟩ | hc2
      · obtain ⟨gs, ga⟩ := hc2.2 C2 dx2 fs2 hF
        obtain ⟨mA, J, _⟩ := ins_get I3.hok ga
        obtain ⟨od, J, _⟩ := J.look
        exact ⟨od, J⟩
      · exact absurd hc2 hk
    · exact absurd hc hk
/-- x(..), x a local name that holds a side -/
def tCallK (X : Cx) (CX : CXT) (k i : Nat) (E : L2.St → XK) (t : TA) : TE := fun σ H Q => ∃ f, σ[i]? = some (some (.ref f)) ∧ Cbk X.K H f ∧ t σ H fun vs H1 => Cbk2 X.K H H1 f ∧ ∃ sp, CalOk X.prog X.w X.K X.mg X.base CX k f sp ∧ sp vs H1 Q (E σ)
theorem pe_callK {Ez : L2.St → XK} {i : Nat} {x : Str} {p pos : Pos} {e : Expr} {es : List Expr} {t : TA} (hN : X.N[i]? = some x) (hv : Vis X.env.scope x) (hr : Room k X.A) (hx : ∀ σ, PassesAt CX X σ (Ez σ)) (ha : PA X (e :: es) t) (hdb : (x == ("__debug__" : Str)) = false := by decide) (hcd : (x == ("__classdict__" : Str)) = false := by decide)
    (he : starEach (e :: es) X.env = (false, eval e X.env) :: starEach es X.env := by rfl) (hpl : (backTo pos (starEach es X.env)).any (·.1) = false := by rfl) : PE X (.Call (.Name x p) (e :: es) [] pos) (tCallK X CX k i Ez t) := by
  constructor
  intro pins s σ H Q I hq
  obtain ⟨f, hs, hc, ht⟩ := hq
  apply wpAny_Call_Name_kw
  refine thn ((pe_var (pos := p) hN hv hdb hcd).run pins s σ H (fun v H1 => v = .ref f ∧ H1 = H) I ⟨.ref f, hs, rfl, rfl⟩) fun u s1 ⟨v, H1, I1, r1, q1⟩ => ?_
  obtain ⟨rfl, rfl⟩ := q1
  cases r1
  exact call_cbk hr hx ha I1 hc ht he hpl
/-- o.f(..), f an attribute that holds what can be called -/
def tCallF (X : Cx) (CX : CXT) (k : Nat) (E : L2.St → XK) (m : Str) (to : TE) (t : TA) : TE := fun σ H Q => to σ H fun x H1 => ∃ a C dx fs f, x = .ref a ∧ H1 a = some (.ins C dx fs) ∧ Cls X.K C ∧ NoAttr X.K C m ∧ fs.lookup m = some (.ref f) ∧ Cbk X.K H1 f ∧
  t σ H1 fun vs H2 => Cbk2 X.K H1 H2 f ∧ ∃ sp, CalOk X.prog X.w X.K X.mg X.base CX k f sp ∧ sp vs H2 Q (E σ)
theorem pe_callF {Ez : L2.St → XK} {o e : Expr} {es : List Expr} {m : Str} {apos pos : Pos} {ta : TE} {t : TA} {pl : Sem Bool} (he : PE X o ta) (hr : Room k X.A) (hx : ∀ σ, PassesAt CX X σ (Ez σ)) (ha : PA X (e :: es) t)
    (hst : starEach (e :: es) X.env = (false, eval e X.env) :: starEach es X.env := by rfl) (hpl : (backTo pos (starEach es X.env)).any (·.1) = false := by rfl)
    (ht : eval (.Call (.Attribute o m apos) (e :: es) [] pos) X.env = (do
      let ov ← eval o X.env
      standAt apos.atName
      let (f, first) ← holding [ov] (getMethod ov m pl)
      callWith pos f first (backTo pos (starEach (e :: es) X.env)) (backToKw pos (keywordEach [] X.env))) := by rfl) :
    PE X (.Call (.Attribute o m apos) (e :: es) [] pos) (tCallF X CX k Ez m ta t) := by
  refine ⟨fun pins s σ H Q I h => ?_⟩
  refine PySem.W.methodCall_KW (pl := pl) (thn (he.run pins s σ H _ I h) fun u s1 ⟨x, H1, I1, rx, a, C, dx, fs, f, ex, ea, c, n, l, hc, q⟩ => ?_) ht
  subst ex
  obtain rfl : u = Value.ref a := rx
  refine getval_ok I1 ea c n l fun u s2 I2 ru => ?_
  obtain rfl : u = Value.ref f := ru
  exact call_cbk hr hx ha I2 hc q hst hpl
end
end LamF
namespace Sim
open PySem PySem.Spec PyProof.Rows L2 Evl LamX LamF NdefX
/-! ### an object with an attribute -/
theorem e_at {β : Type} {K : PySem.W.Frag} {σ : L2.St} {G W : Hp} {to : TE} {S : Rep β} {f : Str} {m : Option β} (h : E to σ G W (rAt K S f) m) : E (tFld K to f) σ G W S m := fun x hx H e e' Q q =>
  h x hx H e e' _ fun v H1 G1 u ⟨a, C, dx, fs, y, h1, h2, h3, h4, h5, h6⟩ => ⟨a, C, dx, fs, y, h1, u.gh _ _ h2, h3, h4, h5, q y H1 G1 u h6⟩
/-! ### sides -/
section
variable (P : Program) (w : World) (K : PySem.W.Frag) (mg : Str → Option Value) (base : Heap) (j : Nat)
/-- a side, told by a tree t; its level lev t -/
def rSd {ω δ : Type} (rO : Rep ω) (lev : δ → Nat) (sem : δ → ∀ {κ : Type}, (κ → Str → Option ((Xn ⊕ Int) × κ)) → ω → κ → Option ((Xn ⊕ Int) × κ)) : Rep δ := ⟨fun G v t => ∃ f, v = .ref f ∧ SideOk P w K mg base j rO (lev t) G f (fun a => sem t a),
  fun e ⟨f, h1, h2⟩ => ⟨f, h1, cbk_mono e h2.cb, h2.ok.imp fun vs H Q E ⟨κ, ci, ask, G, fk, o, s, r, s', a1, a2, a3⟩ => ⟨κ, ci, ask, G, fk, o, s, r, s', a1, e.trans a2, a3⟩⟩⟩
/-- defs that ask a thing with an order -/
def PKo {ι γ ω : Type} (rO : Rep ω) (A : AR ι) (R : Rep γ) (f : ∀ {κ : Type}, (κ → Str → Option ((Xn ⊕ Int) × κ)) → ω → ι → κ → Option ((Xn ⊕ γ) × κ)) : Sp := fun vs H Q E => ∃ (κ : Type) (ci : κ → Cs) (ask : κ → Str → Option ((Xn ⊕ Int) × κ)) (G : Hp) (ws : List V) (fk : Addr) (o : ω) (i : ι) (s : κ) (r : Xn ⊕ γ) (s' : κ),
  vs = ws ++ [.ref fk] ∧ A.r G ws i ∧ (rAt K rO "order").r G (.ref fk) o ∧ AskX P w K mg base j G fk ci ask ∧ Wd G H (ci s) ∧ f ask o i s = some (r, s') ∧
  (∀ e, r = .inl e → ∀ d H2 G2, Fr G H G2 H2 ((ci s).map (·.1)) → Wd G2 H2 (ci s') → Xat G2 e d → E (.ref (He.ga K e.cls)) (some d) H2) ∧ ∀ x, r = .inr x → ∀ v H2 G2, Fr G H G2 H2 ((ci s).map (·.1)) → Wd G2 H2 (ci s') → R.r G2 v x → Q v H2
end
section
variable {P : Program} {w : World} {K : PySem.W.Frag} {mg : Str → Option Value} {base : Heap} {j k kk : Nat} {κ ω : Type} {ci : κ → Cs} {G0 H0 G H G2 H2 : Hp} {ls : List Addr} {cs : Cs} {f fk : Addr} {rO : Rep ω} {σ : L2.St}
variable {sem : ∀ {κ : Type}, (κ → Str → Option ((Xn ⊕ Int) × κ)) → ω → κ → Option ((Xn ⊕ Int) × κ)}
theorem SideOk.lev (h : SideOk P w K mg base j rO k G f (fun a => sem a)) (hk : k ≤ kk) : SideOk P w K mg base j rO kk G f (fun a => sem a) := ⟨h.cb, h.ok.mono hk⟩
/-- asked, with what may be raised -/
theorem c_askXN {ask : κ → Str → Option ((Xn ⊕ Int) × κ)} {s s' : κ} {nm : Str} {r : Xn ⊕ Int} {Q : VK} {E : XK} {Gq Hq : Hp} {csq : Cs} (wq : Wo G0 H0 ls Gq Hq csq) (n : Nat) (w' : Wo G0 H0 ls G H cs) (hc : cs.drop n = ci s) (A : AskX P w K mg base k G0 fk ci ask) (hz : ask s nm = some (r, s'))
    (kx : ∀ e, r = .inl e → ∀ d H2 G2, Wo G0 H0 ls G2 H2 (cs.take n ++ ci s') → Ex G G2 → Xat G2 e d → E (.ref (He.ga K e.cls)) (some d) H2)
    (kq : ∀ x, r = .inr x → ∀ H2 G2, Wo G0 H0 ls G2 H2 (cs.take n ++ ci s') → Ex G G2 → Q (.int x) H2) : Cb2 Hq H fk ∧ ∃ sp, CalOk P w K mg base (L2.CX P w) k fk sp ∧ sp [.str nm] H Q E := by
  have w2 : Wo G0 H0 ls G H (cs.take n ++ ci s) := by rw [← take_drop_eq hc]; exact w'
  exact ⟨cb2_of wq w' A.cb, (c_askX w2 A hz kx kq).2⟩
/-- a side is called with the thing asked -/
theorem c_sideN {ask : κ → Str → Option ((Xn ⊕ Int) × κ)} {s s' : κ} {o : ω} {r : Xn ⊕ Int} {Q : VK} {E : XK} {Gq Hq : Hp} {csq : Cs} (wq : Wo G0 H0 ls Gq Hq csq) (eq : Ex Gq G) (n : Nat) (w' : Wo G0 H0 ls G H cs) (hc : cs.drop n = ci s) (S : SideOk P w K mg base j rO k Gq f (fun a => sem a)) (A : AskX P w K mg base j G0 fk ci ask) (ho : (rAt K rO "order").r G (.ref fk) o) (hz : sem ask o s = some (r, s'))
    (kx : ∀ e, r = .inl e → ∀ d H2 G2, Wo G0 H0 ls G2 H2 (cs.take n ++ ci s') → Ex G G2 → Xat G2 e d → E (.ref (He.ga K e.cls)) (some d) H2)
    (kq : ∀ x, r = .inr x → ∀ H2 G2, Wo G0 H0 ls G2 H2 (cs.take n ++ ci s') → Ex G G2 → Q (.int x) H2) : Cbk2 K Hq H f ∧ ∃ sp, CalOk P w K mg base (L2.CX P w) k f sp ∧ sp [.ref fk] H Q E := by
  have w2 : Wo G0 H0 ls G H (cs.take n ++ ci s) := by rw [← take_drop_eq hc]; exact w'
  refine ⟨?_, _, S.ok, κ, ci, ask, G, fk, o, s, r, s', rfl, eq, ho, A.mono w'.f.gg, w2.tailD, hz, fun e he d H2 G2 fr w3 xa => kx e he d H2 G2 (w2.tailW fr w3 (A.fx s' s)) fr.gg xa, fun x hx H2 G2 fr w3 => kq x hx H2 G2 (w2.tailW fr w3 (A.fx s' s)) fr.gg⟩
  have e1 := wq.ex
  have e2 : Ex Gq H := eq.trans w'.ex
  rcases S.cb with cb | cb
  · refine .inl ⟨cb_mono e1 cb, fun F hF => ?_, fun C dx fs hF => ?_⟩
    · rcases cb with ⟨F2, z⟩ | ⟨C, dx, fs, z⟩
      · rw [e1 _ _ z] at hF
        rw [← hF]
        exact e2 _ _ z
      · rw [e1 _ _ z] at hF
        cases hF
    · rcases cb with ⟨F2, z⟩ | ⟨C2, dx2, fs2, z⟩
      · rw [e1 _ _ z] at hF
        cases hF
      · rw [e1 _ _ z] at hF
        cases hF
        exact ⟨_, e2 _ _ z⟩
  · exact .inr cb
/-- o.f(ask), the attribute a side: opened -/
theorem o_callF {X : Cx} {CX : CXT} {α δ : Type} {E9 : L2.St → XK} {C : Addr} {ns : List Str} {fl : α → List Pd} {to : TE} {t : TA} {m : Str} {x : α} {i : Nat} {S : Rep δ} {y : δ} {Q : VK} (w0 : Wo G0 H0 ls G H cs) (h : E to σ G H (rObj C ns fl) (some x)) (hC : Cls X.K C) (hn : NoAttr X.K C m) (hi : ns.findIdx? (fun z => z == m) = some i) (hp : (fl x)[i]? = some (pd S y))
    (k9 : ∀ v H2 G2, Wo G0 H0 ls G2 H2 cs → Ex G G2 → S.r G2 v y → ∃ f, v = .ref f ∧ Cbk X.K H2 f ∧ t σ H2 fun vs H3 => Cbk2 X.K H2 H3 f ∧ ∃ sp, CalOk X.prog X.w X.K X.mg X.base CX k f sp ∧ sp vs H3 Q (E9 σ)) : tCallF X CX k E9 m to t σ H Q := by
  refine h x rfl H w0.ex (Ex.refl _) _ fun v H1 G1 u r => ?_
  obtain ⟨a, dx, fs, rfl, h2, h3⟩ := r
  obtain ⟨w, hw, r2⟩ := pr_get h3.2 hp
  obtain ⟨f, e, cb, q⟩ := k9 w H1 G1 (w0.up u) u.gg r2
  subst e
  exact ⟨a, C, dx, fs, f, rfl, u.gh a _ h2, hC, hn, look_at h3.1 hi hw, cb, q⟩
end
end Sim

/-! what sides are: objects, lambdas, defs; things that are asked: objects, lambdas -/
namespace Sim
open PySem PySem.Spec PyProof.Rows L2 Evl LamX LamF NdefX
section
variable {P : Program} {w : World} {K : PySem.W.Frag} {mg : Str → Option Value} {base : Heap} {j k kk : Nat} {κ ω : Type} {ci : κ → Cs} {G0 H0 G H G2 H2 : Hp} {ls : List Addr} {cs : Cs} {f fk a C f0 : Addr} {rO : Rep ω} {σ : L2.St} {fd : FuncData} {ps : List Str}
theorem calOk_fn {CX : CXT} {sp : Sp} (F : FnOk P w K mg base CX k f fd ps sp) (hb : L2.Binds K fd ps []) : CalOk P w K mg base CX k f sp := fun A outer s H us vs Q E hr e0 r q => by
  have kin : K.In s.heap := e0.mod.kin.keeps fun b o e => (e0.bs b o e).1
  have hl : us.length = ps.length := by rw [← r.length]; exact F.len _ _ _ _ q
  have b := hb s us kin (by rw [List.append_nil]; exact hl)
  rw [List.append_nil] at b
  exact F.run A outer s H ⟨us, []⟩ us vs Q E hr e0 b r q
/-- an object is asked -/
theorem ask_obj {α β : Type} {Rq : Rep α} {B : Rep β} {ad : α → Addr} {mc : α → List β → Str → Option ((Xn ⊕ Int) × List β)} (M : Meth K C "__call__" f0) (hfn : PySem.W.fnIn K f0 = true) (F : FnOk P w K mg base (L2.CX P w) k f0 fd ps (PXA K (aC Rq (aC rS aN)) (fun i => ad i.1) B rI fun i ys => mc i.1 ys i.2.1)) (hb : L2.Binds K fd ps [])
    {x : α} (h : Rq.r G (.ref a) x) (hi : ∃ dx fs, G a = some (.ins C dx fs)) : AskX P w K mg base k G a (fun ys => [(ad x, cL B ys)]) fun ys nm => mc x ys nm := by
  obtain ⟨dx, fs, hi⟩ := hi
  refine ⟨.inr ⟨_, _, _, hi⟩, (calOk_ins (a := a) M hfn F hb).imp fun vs H Q E ⟨G2, s, nm, r, s', e1, e2, e3, e4, kx, kq⟩ => ?_, fun _ _ => rfl⟩
  subst e1
  refine ⟨⟨dx, fs, e3.ex _ _ (e2 _ _ hi)⟩, G2, (x, nm, ()), s, r, s', ⟨_, _, rfl, Rq.mono e2 h, _, _, rfl, rfl, rfl⟩, e3, e4, kx, fun y hy v H3 G3 fr w3 rr => ?_⟩
  obtain rfl : v = .int y := rr
  exact kq y hy H3 G3 fr w3
/-- a side: an object -/
theorem side_obj {α : Type} {ns : List Str} {fl : α → List Pd} {mf : ∀ {κ : Type}, (κ → Str → Option ((Xn ⊕ Int) × κ)) → ω → α × Unit → κ → Option ((Xn ⊕ Int) × κ)} (M : Meth K C "__call__" f0) (hfn : PySem.W.fnIn K f0 = true)
    (F : FnOk P w K mg base (L2.CX P w) k f0 fd ps (PKo P w K mg base j rO (aC (rObj C ns fl) aN) rI fun a => mf a)) (hb : L2.Binds K fd ps []) {x : α} (h : (rObj C ns fl).r G (.ref a) x) : SideOk P w K mg base j rO k G a (fun ask o s => mf ask o (x, ()) s) := by
  have h0 := h
  obtain ⟨a', dx, fs, e0, hi, _⟩ := h0
  cases e0
  refine ⟨.inl (.inr ⟨_, _, _, hi⟩), (calOk_ins (a := a) M hfn F hb).imp fun vs H Q E ⟨κ, ci, ask, G2, fk, o, s, r, s', e1, e2, ho, A, wd, hz, kx, kq⟩ => ?_⟩
  subst e1
  refine ⟨⟨dx, fs, wd.ex _ _ (e2 _ _ hi)⟩, κ, ci, ask, G2, [.ref a], fk, o, (x, ()), s, r, s', rfl, ⟨_, _, rfl, (rObj C ns fl).mono e2 h, rfl⟩, ho, A, wd, hz, kx, fun y hy v H3 G3 fr w3 rr => ?_⟩
  obtain rfl : v = .int y := rr
  exact kq y hy H3 G3 fr w3
/-- a side: a def -/
theorem side_def {m : ∀ {κ : Type}, (κ → Str → Option ((Xn ⊕ Int) × κ)) → Unit → κ → Option ((Xn ⊕ Int) × κ)} (F : FnOk P w K mg base (L2.CX P w) k f fd ps (PKx P w K mg base j aN rI fun a => m a)) (hb : L2.Binds K fd ps []) (hk : PySem.W.keepIn K (.ref f) = true) : SideOk P w K mg base j rO k G f (fun ask _ s => m ask () s) := by
  refine ⟨.inr hk, (calOk_fn F hb).imp fun vs H Q E ⟨κ, ci, ask, G2, fk, o, s, r, s', e1, e2, ho, Ak, wd, hz, kx, kq⟩ => ?_⟩
  subst e1
  refine ⟨κ, ci, ask, G2, [], fk, (), s, r, s', rfl, rfl, Ak, wd, hz, kx, fun y hy v H3 G3 fr w3 rr => ?_⟩
  obtain rfl : v = .int y := rr
  exact kq y hy H3 G3 fr w3
end
section
variable {X : Cx} {kk : Nat} {σ : L2.St} {G0 H0 G H : Hp} {ls : List Addr} {cs : Cs} {ta : TA} {ι α γ : Type} {A : AR ι} {R : Rep γ} {Ra : Rep α} {D : Ends} {tz : TS}
end
end Sim

/-! methods whose arguments change cells; a call that hands on what is asked and may raise -/
namespace Sim
open PySem PySem.Spec PyProof.Rows L2 Evl LamX LamF NdefX
section
variable {P : Program} {w : World} {K : PySem.W.Frag} {mg : Str → Option Value} {base : Heap} {j k kk : Nat} {κ ω α β : Type} {ci : κ → Cs} {G0 H0 G H G2 H2 W : Hp} {ls : List Addr} {cs : Cs} {f fk a C f0 : Addr} {rO : Rep ω} {σ : L2.St} {fd : FuncData} {ps ns : List Str} {to : TE} {ta : TA}
theorem o_methA {fl : α → List Pd} {me : Str} {sp : Sp} {X9 : XK} {m : Option α} {x : α} {Q : VK} (w : Wo G0 H0 ls G H cs) (h : E to σ G H (rObj C ns fl) m) (hm : m = some x) (hi : ns.contains me = false)
    (k : ∀ v H2 G2, Wo G0 H0 ls G2 H2 cs → Ex G G2 → (rObj C ns fl).r G2 v x → ta σ H2 fun vs H3 => sp (v :: vs) H3 Q X9) : tMeth C me sp [] X9 to ta σ H Q := by
  refine h x hm H w.ex (Ex.refl _) _ fun v H1 G1 u r => ?_
  have r0 := r
  obtain ⟨a, dx, fs, rfl, h2, h3⟩ := r
  refine ⟨a, dx, fs, rfl, u.gh a _ h2, look_no h3.1 hi, ?_⟩
  have := k (.ref a) H1 G1 (w.up u) u.gg r0
  simpa only [List.append_nil] using this
theorem SideOk.congr {sem sem' : ∀ {κ : Type}, (κ → Str → Option ((Xn ⊕ Int) × κ)) → ω → κ → Option ((Xn ⊕ Int) × κ)} (h : SideOk P w K mg base j rO k G f (fun a => sem a)) (e : ∀ {κ : Type} (a : κ → Str → Option ((Xn ⊕ Int) × κ)) (o : ω) (s : κ), sem' a o s = sem a o s) : SideOk P w K mg base j rO k G f (fun a => sem' a) :=
  ⟨h.cb, h.ok.imp fun vs H Q E ⟨κ, ci, ask, G, fk, o, s, r, s', a1, a2, a3, a4, a5, a6, a7⟩ => ⟨κ, ci, ask, G, fk, o, s, r, s', a1, a2, a3, a4, a5, by rw [← a6]; exact (e ask o s).symm, a7⟩⟩
/-- another reading of the same value -/
theorem e_cv {te : TE} {R : Rep α} {S : Rep β} {m : Option α} {c : α → β} (h : E te σ G W R m) (hc : ∀ {G : Hp} {v : V} {x : α}, R.r G v x → S.r G v (c x)) : E te σ G W S (m >>= fun x => some (c x)) := fun z hz H e e' Q q => by
  obtain ⟨x, hx, hz⟩ := bindS hz
  cases hz
  exact h x hx H e e' _ fun v H2 G2 u r => q v H2 G2 u (hc r)
end
end Sim

/-! a | b of two own classes with the same method -/
namespace PySem.W
open PySem PySem.Spec PyProof.Rows PySem.Calls
variable {prog : Program} {w : World} {A : Around} {E : Value → Shared → Prop} {s : Shared} {K : Frag} {x C D L f g : Addr} {h₀ : Heap} {m : Str → Option Value} {ox : Obj} {od : Option Obj}
theorem sd_bin {op : Operator} {b : Value} {Q : Value → Shared → Prop} (F : Fr h₀ L s.heap m) (X₀ : K.In h₀) (I : InstAt s.heap x ox C od) (hb : Looks (model prog w) s.heap (typeOf b) (.ref D)) (hne : C ≠ D) (hc : selfFirst K C = true) (hd : selfFirst K D = true)
    (hs : findIn K (.ref C) (PySem.dunder op.info.2) = some (some (.ref f))) (hf : isFn K (.ref f) = true) (hr : findIn K (.ref C) (dunderR op.info.2) = some none)
    (hsD : findIn K (.ref D) (PySem.dunder op.info.2) = some (some (.ref g))) (hrD : findIn K (.ref D) (dunderR op.info.2) = some none) (hsub : subIn K (.ref D) (.ref C) = some false)
    (h : wpAny (model prog w) A (call (.ref f) [.ref x, b]) (CmpBack Q) E s) : wpAny (model prog w) A (binaryOp op (.ref x) b) Q E s := by
  have X := X₀.keeps F.keep
  obtain ⟨cd, rest, hcd, hm⟩ := ksp_first hc
  obtain ⟨cd2, rest2, hcd2, hm2⟩ := ksp_first hd
  rcases hi : op.info with ⟨sym, nm'⟩
  rw [hi] at hs hr hsD hrD
  dsimp only at hs hr hsD hrD
  have one := ksp_try X I hs hf h
  obtain ⟨hh, g9, d, tt, os⟩ := s
  have L1 : Looks (model prog w) hh (typeOf (.ref x)) (.ref C) := I.type
  have L2 : Looks (model prog w) hh (typeOf b) (.ref D) := hb
  have L3 : Looks (model prog w) hh (fillsNumberSlot (.ref C) nm') true := fills_K X hcd hm hs
  have L4 : Looks (model prog w) hh (fillsNumberSlot (.ref D) nm') true := fills_K X hcd2 hm2 hsD
  have L5 : Looks (model prog w) hh (isSubtype (.ref D) (.ref C)) false := looks_subIn X hsub
  have L6 : Looks (model prog w) hh (numberSlotInPython (.ref C) nm') true := ksp_inPy X hs hr (.inl rfl)
  have L7 : Looks (model prog w) hh (numberSlotInPython (.ref D) nm') true := ksp_inPy X hsD hrD (.inl rfl)
  have hne2 : (Value.ref C == Value.ref D) = false := Bool.eq_false_iff.mpr fun q => by cases beq_iff_eq.mp q; exact hne rfl
  simp only [binaryOp, hi]
  refine wpAny_holding (wpAny_bind ?_)
  unfold binaryOp1
  refine wpAny_bind (L1.at (wpAny_bind (L2.at (wpAny_bind (L3.at ?_)))))
  simp only [hne2, Bool.false_eq_true, if_false]
  ksp_lk
  refine wpAny_mono one (fun r s' hr' => ?_) fun _ _ e => e
  obtain ⟨v, rfl, hq⟩ := hr'
  ksp_lk
  exact hq
end PySem.W
namespace L2
open PySem PySem.Spec PyProof.Rows
structure OpOk (K : PySem.W.Frag) (C D : Addr) (nm : String) (f : Addr) : Prop where
  sc : PySem.W.selfFirst K C = true
  at_ : PySem.W.findIn K (.ref C) (PySem.dunder nm) = some (some (.ref f))
  fn : PySem.W.isFn K (.ref f) = true
  two : C = D ∨ (PySem.W.selfFirst K D = true ∧ PySem.W.findIn K (.ref C) (dunderR nm) = some none ∧ (∃ g, PySem.W.findIn K (.ref D) (PySem.dunder nm) = some (some (.ref g))) ∧ PySem.W.findIn K (.ref D) (dunderR nm) = some none ∧ PySem.W.subIn K (.ref D) (.ref C) = some false)
section
variable {X : Cx} {CX : CXT} {k : Nat} {f C : Addr} {fd : FuncData} {ps : List Str} {sp : Sp} {pins : List (Addr × Obj)} {σ : St} {H : Hp} {s : Shared} {ta tb : TE}
end
end L2
namespace Sim
open PySem PySem.Spec PyProof.Rows L2 Evl LamX LamF NdefX
/-- an instance of one of these classes -/
def rSbOf {δ : Type} (cn : List Str) (K : PySem.W.Frag) (S : Rep δ) : Rep δ := ⟨fun G v t => S.r G v t ∧ ∃ (a : Addr) (c : Str) (dx : Addr) (fs : List (Str × V)), v = .ref a ∧ G a = some (.ins (He.ga K c) dx fs) ∧ c ∈ cn,
  fun e ⟨h, a, c, dx, fs, h1, h2, h3⟩ => ⟨S.mono e h, a, c, dx, fs, h1, e _ _ h2, h3⟩⟩
theorem ops_ok {cn : List Str} {nm : String} {D : Str} {K : PySem.W.Frag} (h : opsB cn nm D K = true) {c d : Str} (hc : c ∈ cn) (hd : d ∈ cn) : OpOk K (He.ga K c) (He.ga K d) nm (He.ma K (He.ga K D) (PySem.dunder nm)) := by
  obtain ⟨h1, h2⟩ := He.ba h
  obtain ⟨h2, h3⟩ := He.ba h2
  have key : ∀ c ∈ cn, PySem.W.selfFirst K (He.ga K c) = true ∧ PySem.W.findIn K (.ref (He.ga K c)) (PySem.dunder nm) = some (some (.ref (He.ma K (He.ga K D) (PySem.dunder nm)))) ∧ PySem.W.findIn K (.ref (He.ga K c)) (dunderR nm) = some none := fun c hc => by
    obtain ⟨a1, a2⟩ := He.ba (List.all_eq_true.mp h1 c hc)
    obtain ⟨a2, a3⟩ := He.ba a2
    exact ⟨a1, of_decide_eq_true a2, of_decide_eq_true a3⟩
  obtain ⟨c1, c2, c3⟩ := key c hc
  obtain ⟨d1, d2, d3⟩ := key d hd
  refine ⟨c1, c2, h2, ?_⟩
  have := List.all_eq_true.mp (List.all_eq_true.mp h3 c hc) d hd
  rcases Bool.or_eq_true_iff.mp this with z | z
  · exact .inl (of_decide_eq_true z)
  · exact .inr ⟨d1, c3, ⟨_, d2⟩, d3, of_decide_eq_true z⟩
end Sim

/-! reversed; values that are an int or a text -/
namespace Sim
open PySem PySem.Spec PyProof.Rows L2 Evl
section
variable {K : PySem.W.Frag} {σ : L2.St} {G0 H0 G H G2 H2 W : Hp} {ls : List Addr} {cs : Cs} {ta : TA} {te : TE} {α β : Type} {R : Rep α} {D : Ends} {tu tz : TS} {g : TG}
end
end Sim

/-! a def that hands back a lambda: its function, told of the data heap -/
namespace Sim
open PySem PySem.Spec PyProof.Rows L2 Evl LamX LamF NdefX
section
variable {P : Program} {w : World} {K : PySem.W.Frag} {mg : Str → Option Value} {base : Heap} {CX : CXT} {k j : Nat} {f Pt : Addr} {fd : FuncData} {ps fr : List Str} {q : Str} {lp : Arguments} {lb : Expr} {lsc : Scope} {ws : List V → List V} {tb : Cs}
theorem fnOk_imp {sp sp' : Sp} (F : FnOk P w K mg base CX k f fd ps sp) (h : ∀ vs H Q E, sp' vs H Q E → sp vs H Q E) : FnOk P w K mg base CX k f fd ps sp' :=
  ⟨fun vs H Q E z => F.len vs H Q E (h _ _ _ _ z), fun A outer s H args us vs Q E hr e0 hb r z => F.run A outer s H args us vs Q E hr e0 hb r (h _ _ _ _ z)⟩
theorem fn_side {ι δ : Type} {A : AR ι} {R : Rep δ} {mkS : ι → δ} (L : FnOk P w K mg base CX k f fd ps (spLam Pt q lp lb lsc fr ps ws)) (hj : tb[j]? = some (Pt, cTab q)) (len : ∀ {G : Hp} {vs : List V} {i : ι}, A.r G vs i → vs.length = ps.length)
    (hside : ∀ {G : Hp} {fl : Addr} {F : LF} {vs : List V} {i : ι}, F.qual = q → F.params = lp → F.body = lb → F.scope = lsc → A.r G vs i → Clos G fl F fr (ws vs) → R.r G (.ref fl) (mkS i)) : FnOk P w K mg base CX k f fd ps (PTm tb A R fun i => some (mkS i)) := by
  refine fnOk_imp L fun vs H Q E ⟨G, i, u, x, u', hv, wd, hz, kq⟩ => ?_
  have hz := uM_of hz
  cases hz
  have w0 : Wo G H (tb.map (·.1)) G H tb := Wo.startC wd
  obtain ⟨gP, oP, hP, pst, rfl, cP⟩ := w0.w.getAt hj
  refine ⟨len hv, pst, hP, Cds.mono w0.ex cP, fun fl F H1 pst' h1 h2 h3 h4 lm cl => ?_⟩
  have co := cl.co
  rw [h1] at co
  have cdm := cds_made (F := F) w0 hj hP lm.cd.ok co lm.src lm.old
  obtain ⟨w2, e2⟩ := w0.made hj lm.ex lm.tb cdm.1
  have cl2 : Clos (lamG G H H1) fl F fr (ws vs) := by
    refine ⟨by rw [lamG_new lm.nf]; exact cl.at_, by rw [h1]; exact cdm.2, fun n y hy => ?_, cl.only, cl.inj, cl.ln⟩
    obtain ⟨c, o, u, v, a1, a2, a3, a4, a5⟩ := cl.ce n y hy
    exact ⟨c, o, u, v, a1, by rw [lamG_new (lm.ceN y c a1)]; exact a2, a3, a4, a5⟩
  exact kq (.ref fl) H1 (lamG G H H1) w2.f w2.w (hside h1 h2 h3 h4 (A.mono e2 hv) cl2)
theorem rAt_of {α β : Type} {C : Addr} {ns : List Str} {fl : α → List Pd} {G : Hp} {v : V} {x : α} {S : Rep β} {y : β} {f : Str} (h : (rObj C ns fl).r G v x) (hC : Cls K C) (hn : NoAttr K C f) {i : Nat} (hi : ns.findIdx? (fun z => z == f) = some i) (hp : (fl x)[i]? = some (pd S y)) : (rAt K S f).r G v y := by
  obtain ⟨a, dx, fs, rfl, h2, h3⟩ := h
  obtain ⟨u, hu, r⟩ := pr_get h3.2 hp
  exact ⟨a, C, dx, fs, u, rfl, h2, hC, hn, look_at h3.1 hi hu, r⟩
theorem o_callK {X : Cx} {Ez : L2.St → XK} {t : TA} {Q : VK} {σ : L2.St} {G0 H0 G H : Hp} {ls : List Addr} {cs : Cs} {i : Nat} (w0 : Wo G0 H0 ls G H cs) (hi : σ[i]? = some (some (.ref f))) (c : Cbk X.K G f) (h : t σ H fun vs H1 => Cbk2 X.K H H1 f ∧ ∃ sp, CalOk X.prog X.w X.K X.mg X.base CX k f sp ∧ sp vs H1 Q (Ez σ)) : tCallK X CX k i Ez t σ H Q :=
  ⟨f, hi, cbk_mono w0.ex c, h⟩
theorem hws_id {ps : List Str} (vs : List V) (hl : vs.length = ps.length) (i : Nat) (y : Str) (hy : ps[i]? = some y) : ∃ (j : Nat) (v : V), ps[j]? = some y ∧ vs[j]? = some v ∧ vs[i]? = some v := by
  have hi : i < vs.length := by rw [hl]; exact (List.getElem?_eq_some_iff.mp hy).1
  exact ⟨i, vs[i], hy, List.getElem?_eq_getElem hi, List.getElem?_eq_getElem hi⟩
end
end Sim

/-! askers asked where nothing is raised; their cell at any place -/
namespace Sim
open PySem PySem.Spec PyProof.Rows L2 Evl LamX LamF NdefX
section
variable {P : Program} {w : World} {K : PySem.W.Frag} {mg : Str → Option Value} {base : Heap} {k : Nat} {κ : Type} {ci : κ → Cs} {G0 H0 G H G2 H2 Gq Hq : Hp} {ls : List Addr} {cs csq : Cs} {fk : Addr} {σ : L2.St}
end
end Sim

/-! a lambda whose body asks its own parameter -/
namespace LamF
open PySem PySem.Spec PyProof.Rows L2 LamX NdefX
section
variable {CX : CXT} {P : Program} {w : World} {K : PySem.W.Frag} {mg : Str → Option Value} {base : Heap} {N ps fr : List Str} {F : LF} {f : Addr} {k i : Nat} {x : Str} {e : Expr} {es : List Expr} {p pos : Pos} {us : List V}
/-- the context of a lambda's body: its cells out of the heap -/
abbrev lcx (CX : CXT) (P : Program) (w : World) (K : PySem.W.Frag) (mg : Str → Option Value) (base : Heap) (N fr : List Str) (F : LF) (f : Addr) (A : Around) (outer : List Env) (s : Shared) (H : Hp) (E : XK) : Cx :=
  ncx CX P w K mg base N F.nf f A outer s (unlayH (celsH F fr H) H) fun c d H' => E c d (layH (celsH F fr H) H')
def tIn (CX : CXT) (P : Program) (w : World) (K : PySem.W.Frag) (mg : Str → Option Value) (base : Heap) (fr : List Str) (F : LF) (k i : Nat) (H : Hp) (E : XK) (t : TA) : TE := fun σ H' Q => H' = unlayH (celsH F fr H) H ∧ ∃ fk, σ[i]? = some (some (.ref fk)) ∧ Cb H' fk ∧
  t σ H' fun vs H'' => H'' = H' ∧ ∃ sp, CalOk P w K mg base CX k fk sp ∧ sp vs H (fun v H2 => Q v (unlayH (celsH F fr H) H2)) E
theorem pe_callIn {A : Around} {outer : List Env} {s : Shared} {H : Hp} {E : XK} {t : TA} (C : CXlay CX P w) (hp : NcxP CX P w K mg base N F.nf) (hr : Room k (A.deeper (envF F.nf f s.heap.objs.size))) (e0 : Env0 P w K mg base A outer s H) (cl : Clos H f F fr us)
    (hN : N[i]? = some x) (hv : Vis F.scope x) (ha : PA (lcx CX P w K mg base N fr F f A outer s H E) (e :: es) t) (hdb : (x == ("__debug__" : Str)) = false := by decide) (hcd : (x == ("__classdict__" : Str)) = false := by decide)
    (he : starEach (e :: es) (lcx CX P w K mg base N fr F f A outer s H E).env = (false, eval e (lcx CX P w K mg base N fr F f A outer s H E).env) :: starEach es (lcx CX P w K mg base N fr F f A outer s H E).env := by rfl)
    (hpl : (backTo pos (starEach es (lcx CX P w K mg base N fr F f A outer s H E).env)).any (·.1) = false := by rfl) : PE (lcx CX P w K mg base N fr F f A outer s H E) (.Call (.Name x p) (e :: es) [] pos) (tIn CX P w K mg base fr F k i H E t) := by
  have hl0 : ∀ c o, (celsH F fr H).lookup c = some o → H c = some (CelO o) := fun c o e => (cl.mem e).1
  have eL : layH (celsH F fr H) (unlayH (celsH F fr H) H) = H := lay_unlay hl0
  have hn0 : ∀ c o, (celsH F fr H).lookup c = some o → unlayH (celsH F fr H) H c = none := fun c o e => unlay_in e
  have at0 : ∀ c o, (celsH F fr H).lookup c = some o → s.heap.get? c = some o := fun c o e => (e0.hok c _ (hl0 c o e)).1
  have nfr : ∀ c o, (celsH F fr H).lookup c = some o → c ∉ frs outer := fun c o e z => by
    have := e0.frf c z
    rw [hl0 c o e] at this
    cases this
  have scel : ∀ c o, (celsH F fr H).lookup c = some o → ∃ u, o.data = .cell u := fun c o e => by
    obtain ⟨_, i, y, hi, q⟩ := cl.mem e
    obtain ⟨c1, o1, u, v, h1, h2, h3, _⟩ := cl.ce i y hi
    rw [q] at h1
    cases h1
    rw [hl0 c o e] at h2
    cases h2
    exact ⟨_, h3⟩
  constructor
  intro pins s2 σ H' Q I hq
  obtain ⟨rfl, fk, hs, hc, ht⟩ := hq
  apply wpAny_Call_Name_kw
  refine thn ((pe_var (pos := p) hN hv hdb hcd).run pins s2 σ _ (fun v H1 => v = .ref fk ∧ H1 = unlayH (celsH F fr H) H) I ⟨.ref fk, hs, rfl, rfl⟩) fun u s3 ⟨v, H1, I1, r1, q1⟩ => ?_
  obtain ⟨rfl, rfl⟩ := q1
  cases r1
  have tail : ∀ us3 s4 vs, Inv (lcx CX P w K mg base N fr F f A outer s H E) pins σ (unlayH (celsH F fr H) H) s4 → Vals vs us3 → (∃ sp, CalOk P w K mg base CX k fk sp ∧ sp vs H (fun v H2 => Q v (unlayH (celsH F fr H) H2)) E) →
      wpAny (model P w) (lcx CX P w K mg base N fr F f A outer s H E).A (call (.ref fk) us3) (EP (lcx CX P w K mg base N fr F f A outer s H E) pins σ Q) (lcx CX P w K mg base N fr F f A outer s H E).xe s4 := fun us3 s4 vs I4 r ⟨sp, ok, q⟩ => by
    have nst : ∀ c o, (celsH F fr H).lookup c = some o → c ∉ frs (envF F.nf f s.heap.objs.size :: outer) := fun c o e z => by
      rcases List.mem_cons.mp (I4.stkSub c z) with z | z
      · have := Heap.lt_size (at0 c o e)
        rw [z] at this
        exact Nat.lt_irrefl _ this
      · exact nfr c o e z
    have at2 : ∀ c o, (celsH F fr H).lookup c = some o → s4.heap.get? c = some o := fun c o e => I4.base.keep c o (at0 c o e) (hn0 c o e) (nfr c o e) (fun z => nomatch (show c ∈ ([] : List Addr) from z))
    have S2 : Stand (frs (envF F.nf f s.heap.objs.size :: outer)) (celsH F fr H) s4.heap := ⟨at2, scel, nst⟩
    have e2 : Env0 P w K mg base (A.deeper (envF F.nf f s.heap.objs.size)) (envF F.nf f s.heap.objs.size :: outer) s4 H := by
      have z := env0_lay (cs := celsH F fr H) I4 (fun c o e => ⟨hn0 c o e, ?_, nst c o e⟩) S2
      · rw [eL] at z
        exact z
      · cases qb : base.get? c with
        | none => exact qb
        | some ob =>
          have := (e0.bs c ob qb).2
          rw [hl0 c o e] at this
          cases this
    refine wpAny_call (codeAny_mono (ok _ _ s4 H us3 vs _ E hr e2 r q) fun rr s' hq => ?_)
    have h2 := cr_unlay C S2 hl0 hq
    cases rr with
    | error ev => exact hp f A outer s (unlayH (celsH F fr H) H) (fun c d H' => E c d (layH (celsH F fr H) H')) pins _ _ s4 ev s' I4 h2
    | ok fl =>
      cases fl with
      | ret u =>
        obtain ⟨v, H', J, rv, qv⟩ := I4.after h2
        refine ⟨v, H', J, rv, ?_⟩
        have qv : Q v (unlayH (celsH F fr H) (layH (celsH F fr H) H')) := qv
        rw [unlay_lay fun c o e => by
          obtain ⟨_, n, y, _, qy⟩ := cl.mem e
          exact J.freeC y c qy] at qv
        exact qv
      | next => exact False.elim h2
      | brk => exact False.elim h2
      | cont => exact False.elim h2
  rcases hc with ⟨F2, hF⟩ | ⟨C2, dx, fs, hF⟩
  · obtain ⟨⟨pm, ctv, ho⟩, _, _⟩ := I1.hok fk _ hF
    refine PySem.W.callWith_F (first := []) ⟨_, _, _, _, ho⟩ (thn (ha.run pos pins s3 σ _ _ I1 ht) fun us3 s4 ⟨vs, H2, I2, r, hc2, q⟩ => ⟨?_, ?_⟩) he hpl
    · subst hc2
      obtain ⟨⟨pm, ctv, ho⟩, _, _⟩ := I2.hok fk _ hF
      exact ⟨_, _, _, _, ho⟩
    · subst hc2
      exact tail us3 s4 vs I2 r q
  · refine PySem.W.kcoX_callWith (ox := PySem.W.instObj C2 dx) (C := C2) rfl (thn (ha.run pos pins s3 σ _ _ I1 ht) fun us3 s4 ⟨vs, H2, I2, r, hc2, q⟩ => ⟨?_, ?_⟩) he hpl
    · subst hc2
      obtain ⟨mA, J, _⟩ := ins_get I2.hok hF
      obtain ⟨od, J, _⟩ := J.look
      exact ⟨od, J⟩
    · subst hc2
      exact tail us3 s4 vs I2 r q
/-- a lambda whose body is an expression that asks -/
theorem run_cloA {te : Hp → XK → TE} (C : CXlay CX P w) (hp : NcxP CX P w K mg base N F.nf) (S : NScope N ps fr F.scope) (hbind : ∀ (pm ctv : Value) (us : List Value), us.length = ps.length → bindArgs (PySem.W.kla_fn "<lambda>" F.qual F.params F.body F.scope F.cl pm (.ref F.c) ctv) ⟨us, []⟩ = pure (ps.zip us))
    (hb : ∀ (A : Around) (outer : List Env) (s : Shared) (H : Hp) (E : XK), Room k (A.deeper (envF F.nf f s.heap.objs.size)) → Env0 P w K mg base A outer s H → Clos H f F fr us → PE (lcx CX P w K mg base N fr F f A outer s H E) F.body (te H E)) {G0 : Hp} (cl : Clos G0 f F fr us) :
    CalOk P w K mg base CX (k + 1) f fun vs H Q E => vs.length = ps.length ∧ (∀ a o, G0 a = some o → H a = some o) ∧ te H E (startF N vs (us.map some)) (unlayH (celsH F fr H) H) fun v H' => Q v (layH (celsH F fr H) H') := by
  intro A outer s H vals vs Q E hr e0 r hq
  obtain ⟨hl, ex, q⟩ := hq
  have cl := cl.ex ex
  have hl0 : ∀ c o, (celsH F fr H).lookup c = some o → H c = some (CelO o) := fun c o e => (cl.mem e).1
  have eL : layH (celsH F fr H) (unlayH (celsH F fr H) H) = H := lay_unlay hl0
  have hn0 : ∀ c o, (celsH F fr H).lookup c = some o → unlayH (celsH F fr H) H c = none := fun c o e => unlay_in e
  have at0 : ∀ c o, (celsH F fr H).lookup c = some o → s.heap.get? c = some o := fun c o e => (e0.hok c _ (hl0 c o e)).1
  have nfr : ∀ c o, (celsH F fr H).lookup c = some o → c ∉ frs outer := fun c o e z => by
    have := e0.frf c z
    rw [hl0 c o e] at this
    cases this
  have S0 : Stand (frs outer) (celsH F fr H) s.heap := ⟨at0, fun c o e => by
    obtain ⟨_, i, y, hi, q⟩ := cl.mem e
    obtain ⟨c1, o1, u, v, h1, h2, h3, _⟩ := cl.ce i y hi
    rw [q] at h1
    cases h1
    rw [hl0 c o e] at h2
    cases h2
    exact ⟨_, h3⟩, nfr⟩
  have env0 : Env0 P w K mg base A outer s (unlayH (celsH F fr H) H) := by
    have dn : ∀ b, H b = none → unlayH (celsH F fr H) H b = none := fun b z => by
      cases q : (celsH F fr H).lookup b with
      | none => rw [unlay_out q]; exact z
      | some o => exact unlay_in q
    exact ⟨e0.frames, e0.mod, fun b o z => ⟨(e0.bs b o z).1, dn b (e0.bs b o z).2⟩, e0.bsz, e0.funs, fun b z => dn b (e0.frf b z), hok_unlay hl0 e0.hok, e0.bare⟩
  have CA : CellsAt F.cl fr (us.map some) s.heap (unlayH (celsH F fr H) H) := by
    refine ⟨by rw [List.length_map]; exact cl.ln, fun y c q => ?_, cl.inj, fun i y hi => ?_⟩
    · obtain ⟨i, hi⟩ := List.getElem?_of_mem (cl.only y c q)
      obtain ⟨c1, o1, u, v, h1, h2, h3, _⟩ := cl.ce i y hi
      rw [q] at h1
      cases h1
      have lk := cl.look hi q h2
      exact ⟨hn0 _ _ lk, _, o1, at0 _ _ lk, h3⟩
    · obtain ⟨c1, o1, u, v, h1, h2, h3, h4, h5⟩ := cl.ce i y hi
      refine ⟨c1, h1, fun v' hv' => ?_⟩
      rw [List.getElem?_map, h4] at hv'
      cases hv'
      exact ⟨u, h5, o1, at0 _ _ (cl.look hi h1 h2), h3⟩
  have lim : s.heap.NoLimit := e0.mod.nolimit.keeps fun b o e => (e0.bs b o e).1
  obtain ⟨⟨pm, ctv, ho⟩, _, _⟩ := e0.hok f _ cl.at_
  obtain ⟨⟨oc, cvs, tt, hoc, hdc, hvc⟩, _, _⟩ := e0.hok F.c _ cl.co
  apply PySem.W.kla_callFunE hr.depth ho rfl S.co S.gen rfl ⟨F.c, oc, cvs, tt, rfl, hoc, hdc, hvc⟩
  rw [hbind pm ctv vals (by rw [← r.length]; exact hl)]
  refine wpAny_pure (wpAny_newFunctionEnv S.nocell (fun ⟨n, _⟩ hy => S.par n (List.of_mem_zip hy).1) (fun h₁ hns hsb => ⟨lim.fresh _ hsb, ?_⟩) S.kind)
  show codeAny _ _ (.expr F.body (envF F.nf f s.heap.objs.size)) _ _
  have kp : ∀ b o, s.heap.get? b = some o → h₁.get? b = some o := fun b o e => hsb.extBut b o (Nat.ne_of_lt (Heap.lt_size e)) (Heap.get?_push_of_some _ e)
  have I := inv_startN (CX := CX) (E := fun c d H' => E c d (layH (celsH F fr H) H')) (f := f) (F := F.nf) (tk := s.toks + (ps.zip vals).length) S hr.hd env0 hl r CA hns kp
  apply PySem.W.kla_codeExpr
  refine wpAny_mono (E := (ncx CX P w K mg base N F.nf f A outer s (unlayH (celsH F fr H) H) (fun c d H' => E c d (layH (celsH F fr H) H'))).xe) ?_ (fun _ _ z => z) (fun ev s' h3 => ?_)
  case refine_2 =>
    refine wpAny_mono h3 (fun _ s'' z => ?_) fun _ s'' z => ?_
    · have := C.ly S0 hn0 z
      rw [eL] at this
      exact this
    · have := C.ly S0 hn0 z
      rw [eL] at this
      exact this
  refine thn ((hb A outer s H E (hr.deeper _) e0 cl).run [] _ _ _ (fun v H' => Q v (layH (celsH F fr H) H')) I q) fun u s2 ⟨v, H', J, rv, qv⟩ => ?_
  have ce : CE outer P w (unlayH (celsH F fr H) H) s (fun v H' => Q v (layH (celsH F fr H) H')) u s2 := ⟨v, H', J.os, J.bare, J.base, J.hok, rv, qv⟩
  have := ce_lay S0 hn0 ce
  rw [eL] at this
  exact this
end
end LamF

/-! what asks in a lambda's body -/
namespace Sim
open PySem PySem.Spec PyProof.Rows L2 Evl LamX LamF NdefX
section
variable {P : Program} {w : World} {K : PySem.W.Frag} {mg : Str → Option Value} {base : Heap} {N ps fr : List Str} {F : LF} {f fk : Addr} {k i jn : Nat} {us : List V} {G G2 H H2 : Hp} {κ : Type} {ci : κ → Cs} {σ : L2.St}
theorem lay_back (cl : Clos H f F fr us) (cG : Clos G f F fr us) (e : Ex G H) (e2 : Ex G H2) : layH (celsH F fr H) (unlayH (celsH F fr H) H2) = H2 := lay_unlay fun c o q => by
  obtain ⟨h1, n, y, hn, hy⟩ := cl.mem q
  obtain ⟨c1, o1, u, v, a1, a2, _⟩ := cG.ce n y hn
  rw [hy] at a1
  cases a1
  have := e _ _ a2
  rw [h1] at this
  rw [this]
  exact e2 _ _ a2
theorem tIn_of {ask : κ → Str → Option ((Xn ⊕ Int) × κ)} {s s' : κ} {nm : Str} {r : Xn ⊕ Int} {Q : VK} {E : XK} (cl : Clos H f F fr us) (A : AskX P w K mg base k G fk ci ask) (wd : Wd G H (ci s)) (hi : σ[i]? = some (some (.ref fk))) (hn : σ[jn]? = some (some (.str nm))) (hz : ask s nm = some (r, s'))
    (kx : ∀ e, r = .inl e → ∀ d H2 G2, Fr G H G2 H2 ((ci s).map (·.1)) → Wd G2 H2 (ci s') → Xat G2 e d → E (.ref (He.ga K e.cls)) (some d) H2)
    (kq : ∀ x, r = .inr x → ∀ H2 G2, Fr G H G2 H2 ((ci s).map (·.1)) → Wd G2 H2 (ci s') → Q (.int x) (unlayH (celsH F fr H) H2)) : tIn (L2.CX P w) P w K mg base fr F k i H E (tCons (tVar jn) tNil) σ (unlayH (celsH F fr H) H) Q := by
  refine ⟨rfl, fk, hi, ?_, ⟨.str nm, hn, rfl, _, A.ok, G, s, nm, r, s', rfl, Ex.refl _, wd, hz, kx, kq⟩⟩
  have out : ∀ o, H fk = some o → (∀ o', o ≠ CelO o') → unlayH (celsH F fr H) H fk = some o := fun o h n => by
    cases q : (celsH F fr H).lookup fk with
    | none => rw [unlay_out q]; exact h
    | some o' =>
      rw [(cl.mem q).1] at h
      exact absurd (Option.some.inj h).symm (n o')
  rcases A.cb with ⟨F2, z⟩ | ⟨C, dx, fs, z⟩
  · exact .inl ⟨F2, out _ (wd.ex _ _ z) fun o' q => by unfold FnL CelO at q; cases q⟩
  · exact .inr ⟨C, dx, fs, out _ (wd.ex _ _ z) fun o' q => by unfold CelO at q; cases q⟩
end
end Sim

/-! a def called at the slots, opened; a global name as data -/
namespace Sim
open PySem PySem.Spec PyProof.Rows L2 Evl
section
variable {σ : L2.St} {G W H : Hp} {α : Type} {R : Rep α}
theorem o_callS {sp : Sp} {Ez : L2.St → XK} {ta : TA} {Q : VK} (h : ta σ H fun vs H1 => sp vs H1 Q (Ez σ)) : tCallS sp Ez ta σ H Q := h
theorem e_glv {v : V} {x : α} (h : R.r G v x) : E (tC v) σ G W R (some x) := fun z hz H e e' Q q => by
  cases hz
  exact q v H G (Up.refl e) h
end
section
variable {K : PySem.W.Frag} {C : Addr} {σ : L2.St} {G0 H0 G H : Hp} {ls : List Addr} {cs : Cs} {X : XK} {α β δ κ ι : Type} {R : Rep ι} {S : Rep β} {S2 : Rep δ} {B : Rep κ} {ns : List Str}
theorem c_makeK {fl : Addr → α → List Pd} {f : ι → β → δ → Option α} {vo vt va : V} {i : ι} {t : β} {al : δ} {z : α} {Q : VK} {vs dvs : List V} (w : Wo G0 H0 ls G H cs) (ho : R.r G vo i) (ht : S.r H vt t) (hl : S2.r H va al) (hv : vs ++ dvs = [vo, vt, va]) (hz : f i t al = some z)
    (k : ∀ v p H2 G2, H0 p = none → Wo G0 H0 ls G2 H2 ((p, cL B []) :: cs) → Ex G G2 → (rObj C ns (fl p)).r G2 v z → Q v H2) : tMake C (PIAT C R S S2 B ns fl f) dvs X (tK vs) σ H Q := c_makeT w ho ht hl hv hz k
end
end Sim

set_option maxHeartbeats 2000000
/-! in: data in a list, own objects in a list; dicts compared; tuples of several parts -/
namespace GQ
open PySem PySem.SeqAt
open AutoSeq1 (wpAny_loadPart')
open MeetsSeq MeetsSeq2 MeetsSeq3 SeqRoads2
section
variable {prog : Program} {w : World} {A : Around} {R : Result → Shared → Prop}
end
section
variable {prog : Program} {w : World} {A : Around} {E : Value → Shared → Prop} {s : Shared}
end
end GQ
namespace L2
open PySem PySem.Spec PyProof.Rows SlX
section
variable {X : Cx} {k : Nat} {f C : Addr} {fd : FuncData} {ps : List Str} {sp : Sp} {pins : List (Addr × Obj)} {σ : St} {H : Hp} {s : Shared}
end
end L2

set_option maxHeartbeats 2000000
/-! the same, told by mirrors -/
namespace L2
open PySem PySem.Spec PyProof.Rows SlX
end L2

set_option maxHeartbeats 2000000
namespace Sim
open PySem PySem.Spec PyProof.Rows L2 Evl SlX
section
variable {K : PySem.W.Frag} {C : Addr} {σ : L2.St} {G0 H0 G H G2 H2 W Gn Wn : Hp} {ls : List Addr} {cs : Cs} {l : Addr} {ta tb tc tl te ti tk : TE} {tt : TT} {α β δ κ ι γ : Type} {R : Rep α} {S : Rep β} {T : Rep γ} {A : AR ι}
/-! ### what a value stands for is one thing -/
/-! ### x in xs of own objects -/
/-! ### x in xs of data -/
/-! ### dicts of whole numbers compared -/
/-! ### tuples of several parts -/
def rTup (A : AR ι) : Rep ι := ⟨fun H v i => ∃ a vs, v = .ref a ∧ H a = some (.tup vs) ∧ A.r H vs i, fun e ⟨a, vs, h1, h2, h3⟩ => ⟨a, vs, h1, e _ _ h2, A.mono e h3⟩⟩
theorem e_tupN {ta : TA} {m : Option ι} (h : EA ta σ G W A m) (hl : ∀ {G : Hp} {vs : List V} {i : ι}, A.r G vs i → vs.length ≤ 1000) : E (tTup ta) σ G W (rTup A) m := fun x hx H e e' Q q => by
  refine h x hx H e e' _ fun vs H1 G1 u1 r1 => ?_
  exact ⟨sz_of (Nat.le_trans (hl r1) (by decide)), fun p hp => q _ _ _ (u1.trans (Up.lay u1.gh hp)) ⟨p, vs, rfl, upd_same, A.mono (Ex.new (fresh_back u1.gh hp)) r1⟩⟩
theorem e_prj {k : Nat} {m : Option ι} {pr : ι → α} (h : E te σ G W (rTup A) m) (hp : ∀ {G : Hp} {vs : List V} {i : ι}, A.r G vs i → ∃ v, vs[k]? = some v ∧ R.r G v (pr i)) (hk : k < 1000 := by decide) : E (tOp (rIxT K) te (tC (.int (k : Int)))) σ G W R (m >>= fun i => some (pr i)) := fun z hz H e e' Q q => by
  obtain ⟨x, hx, hz⟩ := bindS hz
  cases hz
  refine h x hx H e e' _ fun v H1 G1 u1 r1 => ?_
  obtain ⟨a, vs, rfl, h2, h3⟩ := r1
  obtain ⟨y, hy, ry⟩ := hp h3
  have hl : k < vs.length := (List.getElem?_eq_some_iff.mp hy).1
  refine ⟨a, vs, (k : Int), y, rfl, rfl, Or.inl (Or.inl (u1.gh _ _ h2)), ?_, q y H1 G1 u1 ry⟩
  have : ixN vs.length (k : Int) = some k := by
    unfold ixN
    simp
    omega
  show (ixN vs.length (k : Int)).bind (fun j => vs[j]?) = some y
  rw [this]
  exact hy
/-- parts as data -/
structure DtA (A : AR ι) (d : ι → List PyData) (n : Nat) : Prop where
  dp : ∀ {K : PySem.W.Frag} {H : Hp} {vs : List V} {x : ι}, A.r H vs x → DpAll K H vs (d x)
  lay : ∀ x, PyData.plainAll (d x) = true
  dep : ∀ x, PyData.depthAll (d x) ≤ n
  eq : ∀ x y, PyData.eqvAll (d x) (d y) = true ↔ x = y
theorem dtaN : DtA aN (fun _ => []) 0 := ⟨fun h => by rw [show _ = ([] : List V) from h]; exact .nil, fun _ => rfl, fun _ => Nat.le_refl _, fun x y => by simp [PyData.eqvAll]⟩
theorem dtaC {d : α → PyData} {f : ι → List PyData} {n k : Nat} (h : Dt R d n) (h' : DtA A f k) : DtA (aC R A) (fun p => d p.1 :: f p.2) (max n k) :=
  ⟨fun ⟨v, ws, e, h3, h4⟩ => by rw [e]; exact .cons (h.dp h3) (h'.dp h4), fun p => by
    show (PyData.plain _ && PyData.plainAll _) = true
    rw [h.lay, h'.lay]; rfl, fun p => by
    show max (PyData.depth _) (PyData.depthAll _) ≤ _
    have := h.dep p.1; have := h'.dep p.2; omega, fun p q => by
    simp only [PyData.eqvAll, Bool.and_eq_true, h.eq, h'.eq]
    exact ⟨fun ⟨a, b⟩ => Prod.ext a b, fun e => by subst e; exact ⟨rfl, rfl⟩⟩⟩
theorem dtN {d : ι → List PyData} {n : Nat} (h : DtA A d n) : Dt (rTup A) (fun x => PyData.tuple (d x)) (n + 1) :=
  ⟨fun ⟨a, vs, e, h2, h3⟩ => by rw [e]; exact .tup (Or.inl (Or.inl h2)) (h.dp h3), fun x => by
    show PyData.plainAll _ = true
    exact h.lay x, fun x => Nat.succ_le_succ (h.dep x), fun x y => by simp only [PyData.eqv]; exact h.eq x y⟩
/-! ### an item of a list cell -/
/-! ### {k: v for k in ks} -/
end
end Sim

/-! what a call gives is new: lists of dicts that are cleared later -/
namespace Sim
open PySem PySem.Spec PyProof.Rows L2 Evl
section
variable {K : PySem.W.Frag} {σ : L2.St} {G0 H0 G H G2 H2 W Gw Hw : Hp} {ls : List Addr} {cs cs0 : Cs} {l : Addr} {te : TE} {α β κ γ : Type} {R : Rep α} {S : Rep β} {D : Ends} {tz : TS}
theorem Wo.updN {a : Addr} {o : HO} (w : Wo G0 H0 ls G H cs) (hG : G a = none) (hc : ∀ c ∈ cs, c.1 ≠ a) (h0 : H0 a = none) : Wo G0 H0 ls G (upd H a o) cs :=
  ⟨⟨fun b u h => by
    rw [upd_ne (ne_of_none h hG)]; exact w.ex b u h, fun c h => by
    obtain ⟨h1, o2, h2, h3⟩ := w.w.at_ c h
    exact ⟨h1, o2, by rw [upd_ne (hc c h)]; exact h2, h3⟩, w.w.nd⟩, ⟨w.f.gg, fun b u h1 h2 => by
    rw [upd_ne (ne_of_none h1 h0)]; exact w.f.fr b u h1 h2, w.f.nw, fun b h => by
    by_cases z : b = a
    · rw [z, upd_same]; simp
    · rw [upd_ne z]; exact w.f.st b h⟩, w.lo⟩
end
section
variable {K : PySem.W.Frag} {σ : L2.St} {G0 H0 G H G2 H2 W : Hp} {ls : List Addr} {cs : Cs} {ta : TA} {α ι : Type} {R : Rep α} {A : AR ι}
end
end Sim

set_option maxHeartbeats 2000000
/-! name = {k: v for ..}: the name is set before the block goes -/
namespace L2
open PySem PySem.Spec PyProof.Rows
open PySem.Calls
section
variable {X : Cx}
end
end L2
namespace Sim
open PySem PySem.Spec PyProof.Rows L2 Evl SlX
section
variable {K : PySem.W.Frag} {C : Addr} {α : Type} {R : Rep α}
end
end Sim

/-! the hook over any choice of addresses; addresses reached, found by marks in one number (no dedup of lists) -/
namespace Sim
open PySem PySem.Spec PyProof.Rows L2 Evl LamX LamF NdefX
theorem obsUG_eq {en : (Addr → Option Obj) → List Addr} {fa : List He.Fa} {fn : List He.DefD} {ex : List (PySem.W.Frag → Bool)} {xs : List XcD} {gs : List GeD} {sp : List SpD} {tf : List TbD} {file : Str} {g : Addr → Option Obj} {s : Shared} (h : ∀ a, g a = s.heap.get? a) : obsUG en fa fn ex xs gs sp tf file g = (hookU en fa fn ex xs gs sp tf file).obs s := by
  have e : g = s.heap.get? := funext h
  rw [e] <;> rfl
end Sim

set_option maxHeartbeats 2000000
/-! a method with defaults, called with all its arguments -/
namespace Sim
open PySem PySem.Spec PyProof.Rows L2 Evl
end Sim

set_option maxHeartbeats 2000000
/-! cells read as data by a call, and taken out of the data again behind it: what the call gave does not lean on them -/
namespace Sim
open PySem PySem.Spec PyProof.Rows L2 Evl SlX
section
variable {D : List Addr} {W Z G G0 H0 H : Hp} {ls : List Addr} {cs : Cs} {σ : L2.St} {te : TE} {α β : Type} {R : Rep α} {S : Rep β} {κ : Type}
/-! ### kinds of values -/
theorem Off.pd {x : α} (h : Off D W Z R x) : OffP D W Z (Sim.pd R x) := fun G v hZ hG r => h G v hZ hG r
end
end Sim

set_option maxHeartbeats 2000000
/-! an object that changes, with a list of its own: made, called, read -/
namespace Sim
open PySem PySem.Spec PyProof.Rows L2 Evl SlX
section
variable {K : PySem.W.Frag} {C C2 : Addr} {σ : L2.St} {G0 H0 G H G2 H2 W : Hp} {ls : List Addr} {cs : Cs} {l p : Addr} {ta : TA} {te : TE} {X : XK} {α β κ ι ρ : Type} {R : Rep α} {S : Rep β} {B : Rep κ} {A : AR ι} {D : Ends} {tz : TS} {ns : List Str}
section
variable {i j : Nat} {ps : List Pd} {ys : List κ}
end
end
end Sim

set_option maxHeartbeats 2000000
/-! dicts of data compared; tuples that may be a def's default; an object made with its default -/
namespace L2
open PySem PySem.Spec PyProof.Rows SlX
section
variable {K : PySem.W.Frag} {H : Hp}
end
end L2
namespace Sim
open PySem PySem.Spec PyProof.Rows L2 Evl SlX
section
variable {K : PySem.W.Frag} {C : Addr} {σ : L2.St} {G0 H0 G H G2 H2 W : Hp} {ls : List Addr} {cs : Cs} {l p : Addr} {ta : TA} {te tl : TE} {X : XK} {α β κ ι ρ : Type} {R : Rep α} {S : Rep β} {B : Rep κ} {A : AR ι} {D : Ends} {tz : TS} {ns : List Str}
/-! ### dicts of data -/
/-! ### tuples that may stand among a def's defaults -/
/-! ### a method with its default left out -/
end
end Sim

set_option maxHeartbeats 2000000
/-! objects told by some of their attributes; an object with three new lists of texts (an outlook) -/
namespace Sim
open PySem PySem.Spec PyProof.Rows L2 Evl SlX
section
variable {K : PySem.W.Frag} {C : Addr} {σ : L2.St} {G0 H0 G H G2 H2 W Z : Hp} {D : List Addr} {ls : List Addr} {cs : Cs} {l p x : Addr} {ta : TA} {te to : TE} {X : XK} {α β γ κ ι ρ : Type} {R : Rep α} {S : Rep β} {T : Rep γ} {A : AR ι} {ns all nw : List Str} {fl : α → List (Str × Pd)}
/-! ### all cells become data -/
/-! ### the outlook's shape -/
section
variable {α0 α1 : Type} {S0 : Rep α0} {S1 : Rep α1} {g0 : β → α0} {g1 g2 : β → α1} {u1 u2 u3 : β → List Str} {N : Addr → Prop} {f : ι → Option β} {mi : Option ι}
end

theorem o_slots {t : TS} {E : Ends} {σ' : L2.St} (e : σ = σ') (h : t E σ' H) : t E σ H := by rw [e]; exact h
/-! ### a paper and a list of texts read as data -/
section
variable {q : Addr} {i j k : Nat} {C2 : Addr} {B : Rep κ} {ys : List κ} {xs : List Str} {ps : List Pd}
end
end
end Sim

set_option maxHeartbeats 4000000
/-! an __init__ whose first statement is super().__init__(..), with own captured names -/
namespace Sim
open PySem PySem.Spec PyProof.Rows L2 PySem.W PySem.Calls NdefX
structure NScopeC (N ps : List Str) (sc : Scope) : Prop where
  kind : sc.kind = .function
  co : sc.isCoroutine = false
  gen : sc.isGenerator = false
  nd : N.Nodup
  pre : N.take ps.length = ps
  par : ∀ x ∈ ps, sc.names.lookup x = some .local ∨ sc.names.lookup x = some .cell
  free : ∀ y ∈ sc.names, y.2 = .free → y.1 = ("__class__" : Str)
  nocls : ∀ y ∈ sc.names, y.1 = ("__class__" : Str) → y.2 ≠ .cell
section
variable {M : Model} {A : Around} {E : Value → Shared → Prop} {s₀ s : Shared} {m cm : Str → Option Value} {env : Env} {own : List (Str × Addr)}
end
section
variable {M : Model} {A : Around} {E : Value → Shared → Prop} {s : Shared}
end
section
variable {CX : CXT} {P : Program} {w : World} {K : Frag} {mg : Str → Option Value} {base : Heap} {N ps psg : List Str} {F : NF} {C D f g : Addr} {fd fdg : FuncData} {k : Nat} {sp spg : Sp} {e : Expr} {es : List Expr} {rest : List Stmt} {p0 p1 p2 p3 p4 : Pos} {pl : Sem Bool}
end
end Sim

set_option maxHeartbeats 2000000
/-! list(reversed(a list)) -/
namespace RT
open PySem PySem.Spec PyProof.Rows
section
variable {prog : Program} {w : World} {A : Around} {E : Value → Shared → Prop} {s : Shared}
end
section
variable {prog : Program} {w : World} {A : Around} {E : Value → Shared → Prop} {s : Shared}
end
end RT
namespace L2
open PySem PySem.Spec PyProof.Rows RT
section
variable {X : Cx}
end
end L2
namespace Sim
open PySem PySem.Spec PyProof.Rows L2 Evl SlX
section
variable {K : PySem.W.Frag} {σ : L2.St} {G H W : Hp} {te : TE} {α : Type} {R : Rep α}
end
end Sim

set_option maxHeartbeats 2000000
/-! a dict walked while it is locked; dicts read whether they are locked or not -/
namespace Sim
open PySem PySem.Spec PyProof.Rows L2 Evl SlX
section
variable {K : PySem.W.Frag} {C : Addr} {σ : L2.St} {G0 H0 G H G2 H2 W : Hp} {ls : List Addr} {cs : Cs} {l p a : Addr} {ta : TA} {te td ti tx : TE} {X : XK} {α β κ ι ρ : Type} {R : Rep α} {S : Rep β} {D : Ends} {tz : TS} {ns all : List Str} {kf : κ → Key} {od : Obj} {ws : List (Key × V)}
section
variable [DecidableEq κ]
end
/-! ### locking keeps what is known -/
end
end Sim

/-! a | b, a of an own class, b of one, too, or a function; pairs of classes; a lambda that asks -/
namespace PySem.W
open PySem PySem.Spec PyProof.Rows PySem.Calls
variable {prog : Program} {w : World} {A : Around} {E : Value → Shared → Prop} {s : Shared} {K : Frag} {x C L f : Addr} {h₀ : Heap} {m : Str → Option Value} {ox : Obj} {od : Option Obj} {T : String}
theorem sd_binF {op : Operator} {b : Value} {fo ro rc : Option Value} {Q : Value → Shared → Prop} (F : Fr h₀ L s.heap m) (X₀ : K.In h₀) (I : InstAt s.heap x ox C od) (hb : Looks (model prog w) s.heap (typeOf b) (.type T)) (hc : selfFirst K C = true)
    (hs : findIn K (.ref C) (PySem.dunder op.info.2) = some (some (.ref f))) (hf : isFn K (.ref f) = true) (hr : findIn K (.ref C) (dunderR op.info.2) = some rc) (hp : rc = none ∨ ∃ g : Addr, rc = some (.ref g))
    (h1 : findIn K (.type T) (PySem.dunder op.info.2) = some fo) (h2 : findIn K (.type T) (dunderR op.info.2) = some ro) (hsub : subIn K (.type T) (.ref C) = some false)
    (h : wpAny (model prog w) A (call (.ref f) [.ref x, b]) (CmpBack Q) E s) : wpAny (model prog w) A (binaryOp op (.ref x) b) Q E s := by
  have X := X₀.keeps F.keep
  obtain ⟨cd, rest, hcd, hm⟩ := ksp_first hc
  rcases hi : op.info with ⟨sym, nm'⟩
  rw [hi] at hs hr h1 h2
  dsimp only at hs hr h1 h2
  have one := ksp_try X I hs hf h
  obtain ⟨hh, g, d, tt, os⟩ := s
  have L1 : Looks (model prog w) hh (typeOf (.ref x)) (.ref C) := I.type
  have L2 : Looks (model prog w) hh (typeOf b) (.type T) := hb
  have L3 : Looks (model prog w) hh (fillsNumberSlot (.ref C) nm') true := fills_K X hcd hm hs
  have L4 : Looks (model prog w) hh (fillsNumberSlot (.type T) nm') ((fo.isSome && !isSeqSlot fo) || (ro.isSome && !isSeqSlot ro)) := ksp_fillsT X h1 h2
  have L5 : Looks (model prog w) hh (isSubtype (.type T) (.ref C)) false := looks_subIn X hsub
  have L6 : Looks (model prog w) hh (numberSlotInPython (.ref C) nm') true := ksp_inPy X hs hr hp
  have L7 : Looks (model prog w) hh (numberSlotInPython (.type T) nm') false := Looks.of_pure rfl
  have L8 : Looks (model prog w) hh (typeLookup (.type T) (dunderR nm')) ro := looks_findIn X h2
  generalize ((fo.isSome && !isSeqSlot fo) || (ro.isSome && !isSeqSlot ro)) = right at L4
  have hne : (Value.ref C == Value.type T) = false := Bool.eq_false_iff.mpr fun q => by cases beq_iff_eq.mp q
  simp only [binaryOp, hi]
  refine wpAny_holding (wpAny_bind ?_)
  unfold binaryOp1
  refine wpAny_bind (L1.at (wpAny_bind (L2.at (wpAny_bind (L3.at ?_)))))
  simp only [hne, Bool.false_eq_true, if_false]
  cases right with
  | false =>
    ksp_lk
    refine wpAny_mono one (fun r s' hr' => ?_) fun _ _ e => e
    obtain ⟨v, rfl, hq⟩ := hr'
    ksp_lk
    exact hq
  | true =>
    ksp_lk
    refine wpAny_mono one (fun r s' hr' => ?_) fun _ _ e => e
    obtain ⟨v, rfl, hq⟩ := hr'
    ksp_lk
    exact hq
end PySem.W
namespace L2
open PySem PySem.Spec PyProof.Rows
structure OpFn (K : PySem.W.Frag) (C : Addr) (nm : String) (f : Addr) : Prop where
  sc : PySem.W.selfFirst K C = true
  at_ : PySem.W.findIn K (.ref C) (PySem.dunder nm) = some (some (.ref f))
  fn : PySem.W.isFn K (.ref f) = true
  nr : PySem.W.findIn K (.ref C) (dunderR nm) = some none
  t1 : PySem.W.findIn K (.type "function") (PySem.dunder nm) = some none
  t2 : PySem.W.findIn K (.type "function") (dunderR nm) = some none
  sub : PySem.W.subIn K (.type "function") (.ref C) = some false
/-- what stands at b is a function -/
def IsF (K : PySem.W.Frag) (H : Hp) (b : Addr) : Prop := (∃ F, H b = some (LamF.FnL b F)) ∨ PySem.W.isFn K (.ref b) = true
section
variable {X : Cx} {CX : CXT} {k : Nat} {f C : Addr} {fd : FuncData} {ps : List Str} {sp : Sp} {pins : List (Addr × Obj)} {σ : St} {H : Hp} {s : Shared} {ta tb : TE}
/-- a | b, a of an own class that has the method -/
def tOpJ (K : PySem.W.Frag) (nm : String) (f : Addr) (sp : Sp) (E : St → XK) (ta tb : TE) : TE := fun σ H Q => ta σ H fun x H1 => tb σ H1 fun y H2 => ∃ a C dx fs b, x = .ref a ∧ H2 a = some (.ins C dx fs) ∧ y = .ref b ∧
  ((∃ D dy gs, H2 b = some (.ins D dy gs) ∧ OpOk K C D nm f) ∨ (IsF K H2 b ∧ OpFn K C nm f)) ∧ sp [.ref a, .ref b] H2 Q (E σ)
theorem pe_opJ {op : Operator} {E : St → XK} {a b : Expr} {pos : Pos} {nm : String} (hn : nm = op.info.2) (F : FnOk X.prog X.w X.K X.mg X.base CX k f fd ps sp) (hr : Room k X.A) (hb : Binds X.K fd ps []) (hx : ∀ σ, PassesAt CX X σ (E σ))
    (pa : PE X a ta) (pb : PE X b tb) : PE X (.BinOp a op b pos) (tOpJ X.K nm f sp E ta tb) := by
  subst hn
  refine ⟨fun pins s σ H Q I h => ?_⟩
  refine wpAny_BinOp (binT (R := fun x y H2 => ∃ a C dx fs b, x = .ref a ∧ H2 a = some (.ins C dx fs) ∧ y = .ref b ∧ ((∃ D dy gs, H2 b = some (.ins D dy gs) ∧ OpOk X.K C D op.info.2 f) ∨ (IsF X.K H2 b ∧ OpFn X.K C op.info.2 f)) ∧ sp [.ref a, .ref b] H2 Q (E σ)) pa pb I h fun v u s2 x y H2 I2 rx ry q => ?_)
  obtain ⟨a, C, dx, fs, b, rfl, ha, rfl, hy, q⟩ := q
  cases rx
  cases ry
  obtain ⟨mA, J, _⟩ := ins_get I2.hok ha
  obtain ⟨od, J, _⟩ := J.look
  obtain ⟨m, hF⟩ := I2.fr
  have fin : wpAny (model X.prog X.w) X.A (call (.ref f) [.ref a, .ref b]) (PySem.W.CmpBack (EP X pins σ Q)) X.xe s2 := by
    refine wpAny_mono (run_sp (us := [.ref a, .ref b]) (vs := [.ref a, .ref b]) F hr rfl hb (hx σ) I2 (.cons rfl (.cons rfl .nil)) q) (fun v s' hv => ?_) fun _ _ z => z
    obtain ⟨z, H', I', rz, qz⟩ := hv
    exact back_ok (rel_ni rz) ⟨z, H', I', rz, qz⟩
  rcases hy with ⟨D, dy, gs, hb', O⟩ | ⟨hf, O⟩
  · obtain ⟨mB, J', _⟩ := ins_get I2.hok hb'
    obtain ⟨od', J', _⟩ := J'.look
    by_cases hne : C = D
    · subst hne
      exact PySem.W.binop_K hF I2.ok.mod.kin J J'.type O.sc O.at_ O.fn fin
    · rcases O.two with z | ⟨z1, z2, ⟨g, z3⟩, z4, z5⟩
      · exact absurd z hne
      · exact PySem.W.sd_bin hF I2.ok.mod.kin J J'.type hne O.sc z1 O.at_ O.fn z2 z3 z4 z5 fin
  · have ty : PySem.W.Looks (model X.prog X.w) s2.heap (typeOf (.ref b)) (.type "function") := by
      rcases hf with ⟨F', hF'⟩ | hf
      · obtain ⟨⟨pm, ctv, ho⟩, _, _⟩ := I2.hok b _ hF'
        exact fun A Q E s k q => wpAny_typeOf_ref (k _ _ ho) q
      · exact PySem.W.looks_typeIn I2.kIn (beq_iff_eq.mp hf)
    exact PySem.W.sd_binF hF I2.ok.mod.kin J ty O.sc O.at_ O.fn O.nr (.inl rfl) O.t1 O.t2 O.sub fin
end
end L2
namespace Sim
open PySem PySem.Spec PyProof.Rows L2 Evl LamX LamF NdefX
/-- a side of which it is known whether it is an instance of one of these classes or a function -/
def rSqOf {δ : Type} (cn : List Str) (K : PySem.W.Frag) (S : Rep δ) (ob : δ → Bool) : Rep δ := ⟨fun G v t => S.r G v t ∧ (ob t = true → ∃ (a : Addr) (c : Str) (dx : Addr) (fs : List (Str × V)), v = .ref a ∧ G a = some (.ins (He.ga K c) dx fs) ∧ c ∈ cn) ∧ (ob t = false → ∃ b, v = .ref b ∧ IsF K G b),
  fun e ⟨h, h1, h2⟩ => ⟨S.mono e h, fun z => by obtain ⟨a, c, dx, fs, k1, k2, k3⟩ := h1 z; exact ⟨a, c, dx, fs, k1, e _ _ k2, k3⟩, fun z => by
    obtain ⟨b, k1, k2⟩ := h2 z
    exact ⟨b, k1, k2.elim (fun ⟨F, q⟩ => .inl ⟨F, e _ _ q⟩) .inr⟩⟩⟩
theorem opf_ok {cn : List Str} {nm : String} {D : Str} {K : PySem.W.Frag} (h : opfB cn nm D K = true) {c : Str} (hc : c ∈ cn) : OpFn K (He.ga K c) nm (He.ma K (He.ga K D) (PySem.dunder nm)) := by
  obtain ⟨h0, h⟩ := He.ba h
  obtain ⟨h4, h⟩ := He.ba h
  obtain ⟨h5, h6⟩ := He.ba h
  obtain ⟨h1, h2⟩ := He.ba h0
  obtain ⟨h2, h3⟩ := He.ba h2
  obtain ⟨a1, a2⟩ := He.ba (List.all_eq_true.mp h1 c hc)
  obtain ⟨a2, a3⟩ := He.ba a2
  exact ⟨a1, of_decide_eq_true a2, h2, of_decide_eq_true a3, of_decide_eq_true h5, of_decide_eq_true h6, of_decide_eq_true (List.all_eq_true.mp h4 c hc)⟩
section
variable {δ γ : Type} {cn : List Str} {nm : String} {D : Str} {K : PySem.W.Frag} {S : Rep δ} {T : Rep γ} {ob : δ → Bool} {σ : L2.St} {G W : Hp} {ta tb te : TE} {ma mb m : Option δ}
theorem e_opJ {g : δ × δ × Unit → Option γ} (hB : opfB cn nm D K = true) (ha : E ta σ G W (rSbOf cn K S) ma) (hb : E tb σ G W (rSqOf cn K S ob) mb) :
    E (tOpJ K nm (He.ma K (He.ga K D) (PySem.dunder nm)) (PF (aC (rSbOf cn K S) (aC S aN)) T g) (fun _ => E0) ta tb) σ G W T (ma >>= fun x => mb >>= fun y => g (x, y, ())) := fun z hz H e e' Q q => by
  obtain ⟨x, hx, hz⟩ := bindS hz
  obtain ⟨y, hy, hz⟩ := bindS hz
  refine ha x hx H e e' _ fun v H1 G1 u1 r1 => ?_
  refine (hb.mono u1.gg (e'.trans u1.hh)) y hy H1 u1.gh (Ex.refl _) _ fun v2 H2 G2 u2 r2 => ?_
  have r1 := (rSbOf cn K S).mono u2.gg r1
  obtain ⟨s1, a, c, dx, fs, rfl, ha2, hc⟩ := id r1
  obtain ⟨s2, k1, k2⟩ := r2
  obtain ⟨h0, _⟩ := He.ba hB
  have fin : ∀ b, v2 = .ref b → PF (aC (rSbOf cn K S) (aC S aN)) T g [.ref a, .ref b] H2 Q ((fun _ => E0) σ) := fun b e2 => ⟨G2, (x, y, ()), z, u2.gh, ⟨_, _, rfl, r1, _, _, rfl, e2 ▸ s2, rfl⟩, hz, fun v H3 G3 u3 r3 => q v H3 G3 ((u1.trans u2).trans u3) r3⟩
  cases hob : ob y with
  | true =>
    obtain ⟨b, d, dy, gs, rfl, hb2, hd⟩ := k1 hob
    exact ⟨a, _, dx, fs, b, rfl, u2.gh _ _ ha2, rfl, .inl ⟨_, dy, gs, u2.gh _ _ hb2, ops_ok h0 hc hd⟩, fin _ rfl⟩
  | false =>
    obtain ⟨b, rfl, hf⟩ := k2 hob
    exact ⟨a, _, dx, fs, b, rfl, u2.gh _ _ ha2, rfl, .inr ⟨hf.elim (fun ⟨F, q⟩ => .inl ⟨F, u2.gh _ _ q⟩) .inr, opf_ok hB hc⟩, fin _ rfl⟩
theorem e_sqB (h : E te σ G W (rSqOf cn K S ob) m) : E te σ G W (rSbOf cn K S) (m >>= fun x => bif ob x then some x else none) := fun z hz H e e' Q q => by
  obtain ⟨x, hx, hz⟩ := bindS hz
  cases hob : ob x with
  | false => rw [hob] at hz; cases hz
  | true =>
    rw [hob] at hz
    cases hz
    exact h _ hx H e e' Q fun v H2 G2 u ⟨r1, r2, _⟩ => q v H2 G2 u ⟨r1, r2 hob⟩
theorem e_bSq (h : E te σ G W (rSbOf cn K S) m) : E te σ G W (rSqOf cn K S ob) (m >>= fun x => bif ob x then some x else none) := fun z hz H e e' Q q => by
  obtain ⟨x, hx, hz⟩ := bindS hz
  cases hob : ob x with
  | false => rw [hob] at hz; cases hz
  | true =>
    rw [hob] at hz
    cases hz
    exact h _ hx H e e' Q fun v H2 G2 u ⟨r1, r2⟩ => q v H2 G2 u ⟨r1, fun _ => r2, fun z => by rw [hob] at z; cases z⟩
theorem sq_fn {v : V} {t : δ} {b : Addr} (h : S.r G v t) (ho : ob t = false) (e : v = .ref b) (hf : IsF K G b) : (rSqOf cn K S ob).r G v t := by
  refine ⟨h, fun z => ?_, fun _ => ⟨b, e, hf⟩⟩
  rw [ho] at z
  cases z
end
theorem c_tupN {ι : Type} {A : AR ι} {x : ι} {vs : List V} {Q : VK} {G0 H0 G H : Hp} {ls : List Addr} {cs : Cs} {σ : L2.St} (w : Wo G0 H0 ls G H cs) (hv : A.r G vs x) (hn : vs.length ≤ 1000) (k : ∀ v H2 G2, Wo G0 H0 ls G2 H2 cs → Ex G G2 → (rTup A).r G2 v x → Q v H2) : tTup (tK vs) σ H Q :=
  ⟨sz_of (Nat.le_trans hn (by decide)), fun p hp => k _ _ _ (w.up (Up.lay w.ex hp)) (Ex.new (fresh_back w.ex hp)) ⟨p, vs, rfl, upd_same, A.mono (Ex.new (fresh_back w.ex hp)) hv⟩⟩
theorem c_px {ι α : Type} {K : PySem.W.Frag} {A : AR ι} {R : Rep α} {f : ι → Option (Xn ⊕ α)} {i : ι} {r : Xn ⊕ α} {vs : List V} {Q : VK} {E : XK} {G0 H0 G H : Hp} {ls : List Addr} {cs : Cs} (w : Wo G0 H0 ls G H cs) (hv : A.r G vs i) (hz : f i = some r)
    (kx : ∀ e, r = .inl e → ∀ d H2 G2, Wo G0 H0 ls G2 H2 cs → Ex G G2 → Xat G2 e d → E (.ref (He.ga K e.cls)) (some d) H2) (kq : ∀ x, r = .inr x → ∀ v H2 G2, Wo G0 H0 ls G2 H2 cs → Ex G G2 → R.r G2 v x → Q v H2) : PX K A R f vs H Q E :=
  ⟨G, i, r, w.ex, hv, hz, fun e he d H2 G2 u xa => kx e he d H2 G2 (w.up u) u.gg xa, fun x hx v H2 G2 u rr => kq x hx v H2 G2 (w.up u) u.gg rr⟩
/-! ### one of two kinds -/
def rSum {α β : Type} (R : Rep α) (S : Rep β) : Rep (α ⊕ β) := ⟨fun G v t => Sum.elim (R.r G v) (S.r G v) t, fun {_ _ _ x} e h => by cases x with | inl y => exact R.mono e h | inr y => exact S.mono e h⟩
theorem e_two {α β γ : Type} {R : Rep α} {S : Rep β} {T : Rep γ} {σ : L2.St} {G W : Hp} {te tf : TE} {m : Option (α ⊕ β)} {f : α → Option γ} {g : β → Option γ} (h : E te σ G W (rSum R S) m) (h1 : ∀ y, E te σ G W R (some y) → E tf σ G W T (f y)) (h2 : ∀ y, E te σ G W S (some y) → E tf σ G W T (g y)) : E tf σ G W T (m >>= fun x => Sum.elim f g x) := fun z hz => by
  obtain ⟨x, hx, hz⟩ := bindS hz
  cases x with
  | inl y => exact h1 y (fun y' hy' H e e' Q q => by cases hy'; exact h _ hx H e e' Q q) z hz
  | inr y => exact h2 y (fun y' hy' H e e' Q q => by cases hy'; exact h _ hx H e e' Q q) z hz
/-! ### lambda ask: ask(nm), as a side -/
section
variable {P : Program} {w : World} {K : PySem.W.Frag} {mg : Str → Option Value} {base : Heap} {fr ps N : List Str} {f : Addr} {F : LF} {G : Hp}
theorem side_askv {ω : Type} {rO : Rep ω} {j kk : Nat} {nm : Str} (cl : Clos G f F fr [.str nm]) (hN : 2 ≤ N.length)
    (h : CalOk P w K mg base (L2.CX P w) kk f fun vs H Q E => vs.length = 1 ∧ (∀ a o, G a = some o → H a = some o) ∧ tIn (L2.CX P w) P w K mg base fr F j 0 H E (tCons (tVar 1) tNil) (startF N vs ([.str nm].map some)) (unlayH (celsH F fr H) H) fun v H' => Q v (layH (celsH F fr H) H')) :
    SideOk P w K mg base j rO kk G f (fun ask _ s => ask s nm >>= fun x => Sum.elim (fun e => some (Sum.inl e, x.2)) (fun u => some (Sum.inr u, x.2)) x.1) := by
  refine ⟨.inl (.inl ⟨_, cl.at_⟩), h.imp fun vs H Q E ⟨κ, ci, ask, G2, fk, o, s, r, s', e1, e2, ho, Ak, wd, hz, kx, kq⟩ => ?_⟩
  subst e1
  have clG : Clos G2 f F fr [.str nm] := cl.ex e2
  have clH : Clos H f F fr [.str nm] := clG.ex wd.ex
  refine ⟨rfl, fun a o z => wd.ex _ _ (e2 _ _ z), ?_⟩
  obtain ⟨x, hx, hz⟩ := bindS hz
  refine tIn_of (s := s) (s' := x.2) (r := x.1) clH Ak wd rfl rfl hx (fun e he d H3 G3 fr w3 xa => ?_) (fun u hu H3 G3 fr9 w3 => ?_)
  · have hz : Sum.elim _ _ x.1 = some (r, s') := hz
    rw [he] at hz
    have hz : some (Sum.inl e, x.2) = some (r, s') := hz
    cases hz
    exact kx e rfl d H3 G3 fr w3 xa
  · have hz : Sum.elim _ _ x.1 = some (r, s') := hz
    rw [hu] at hz
    have hz : some (Sum.inr u, x.2) = some (r, s') := hz
    cases hz
    show Q (.int u) (layH (celsH F fr H) (unlayH (celsH F fr H) H3))
    rw [lay_back clH clG wd.ex (fr9.gg.trans w3.ex)]
    exact kq _ rfl H3 G3 fr9 w3
end
end Sim

set_option maxHeartbeats 40000000
namespace My
open PySem PySem.Spec PyProof.Rows L2 Sim
theorem be1 {α β : Type} {x : Option α} {f : α → Option β} : (x >>= f) = Option.bind x f := Eq.trans (show (x >>= f) = Option.bind x f from rfl) (Eq.refl _)
theorem bs1 {α β : Type} {a : α} {f : α → Option β} : Option.bind (some a) f = f a := Eq.trans (Option.bind_some a f) (Eq.refl _)
theorem bifT {α : Type} {a b c : α} (h : (bif true then a else b) = c) : a = c := h
theorem bifF {α : Type} {a b c : α} (h : (bif false then a else b) = c) : b = c := h
theorem elimR {α β γ : Type} {f : α → γ} {g : β → γ} {a : β} {c : γ} (h : Sum.elim f g (Sum.inr a) = c) : g a = c := h
theorem elimL {α β γ : Type} {f : α → γ} {g : β → γ} {a : α} {c : γ} (h : Sum.elim f g (Sum.inl a) = c) : f a = c := h
theorem ba1 {α β γ : Type} {x : Option α} {f : α → Option β} {g : β → Option γ} : Option.bind (Option.bind x f) g = Option.bind x fun y => Option.bind (f y) g := Option.bind_assoc ..
structure m_Order where
  f_above : (List (List Bool))
  f_joins : (List (List (Option Int)))
  f_meets : (List (List (Option Int)))
  f_members : (List Int)
  f_height : Int
deriving DecidableEq
abbrev ns_Order : List Str := ["_above", "_joins", "_meets", "_members", "_height"]
def fl_Order (K : PySem.W.Frag) (o : m_Order) : List Pd := [pd (rL (rL rB)) o.f_above, pd (rL (rL (rO rI))) o.f_joins, pd (rL (rL (rO rI))) o.f_meets, pd (rL rI) o.f_members, pd rI o.f_height]
abbrev r_Order (K : PySem.W.Frag) : Rep m_Order := rObj (He.ga K "Order") ns_Order (fl_Order K)
structure m_Record where
  name : Str
  asks : (List (Str × Int))
  result : Int
deriving DecidableEq
def fl_Record (K : PySem.W.Frag) (o : m_Record) : Ps := [(1, pd rS o.name), (0, pd (rT (rP rS rI)) o.asks), (2, pd rI o.result)]
abbrev r_Record (K : PySem.W.Frag) : Rep m_Record := rSl (He.ga K "Record") (fl_Record K)
abbrev m_Asker : Type := m_Order
abbrev ns_Asker : List Str := ["order", "asks"]
def fl_Asker (K : PySem.W.Frag) (l : Addr) (o : m_Asker) : List Pd := [pd (r_Order K) o, pd rA l]
abbrev m_TableAsker : Type := m_Order × (List (Str × Int) × Option (List Str))
abbrev ns_TableAsker : List Str := ["order", "asks", "table", "allowed"]
def fl_TableAsker (K : PySem.W.Frag) (l : Addr) (o : m_TableAsker) : List Pd := [pd (r_Order K) o.1, pd rA l, pd (rM Sum.inr rI) o.2.1, pd (rO (rL rS)) o.2.2]
abbrev rS_TableAsker (K : PySem.W.Frag) : Rep (Addr × m_TableAsker) := rObj (He.ga K "TableAsker") ns_TableAsker (fun p => fl_TableAsker K p.1 p.2)
section
variable {w : World} {K : PySem.W.Frag} {mg : Str → Option Value} {base : Heap}
theorem fr_super (T : Tx K mg) : mg "super" = none := T.free 48 rfl
theorem fr_range (T : Tx K mg) : mg "range" = none := T.free 49 rfl
theorem fr_len (T : Tx K mg) : mg "len" = none := T.free 50 rfl
theorem fr_max (T : Tx K mg) : mg "max" = none := T.free 51 rfl
theorem fr_list (T : Tx K mg) : mg "list" = none := T.free 52 rfl
theorem fr_min (T : Tx K mg) : mg "min" = none := T.free 53 rfl
theorem fr_abs (T : Tx K mg) : mg "abs" = none := T.free 54 rfl
theorem fr_int (T : Tx K mg) : mg "int" = none := T.free 55 rfl
theorem fr_sorted (T : Tx K mg) : mg "sorted" = none := T.free 56 rfl
theorem fr_isinstance (T : Tx K mg) : mg "isinstance" = none := T.free 57 rfl
theorem fr_tuple (T : Tx K mg) : mg "tuple" = none := T.free 58 rfl
theorem fr_dict (T : Tx K mg) : mg "dict" = none := T.free 59 rfl
theorem ns_NotDue : NdefX.NScope ["self", "name", "__class__"] ["self", "name"] ["__class__"] (defScope s_NotDue___init__) := NdefX.nscope_by (by decide +kernel)
theorem known_NotDue (T : Tx K mg) : XcK P K mg x_NotDue := XcD.known (T.xc 0 rfl).1 (T.xc 0 rfl).2 (fr_super T) (by decide +kernel) (by decide +kernel) (by decide +kernel) rfl (by decide +kernel)
theorem okx_NotDue (T : Tx K mg) : ∃ fd, Binds K fd ["self", "name"] [] ∧ FnOk P w K mg base CX0 1 (xcAd K "NotDue") fd ["self", "name"] (spX (He.ga K "NotDue") ["name"]) := by
  obtain ⟨fd, cc, c, Z⟩ := (known_NotDue T).ex
  refine ⟨fd, ?_, ?_⟩
  · obtain ⟨oc, od, osl, kV, doc, pm, an, ct, rfl, lk⟩ := Z.lk
    exact .all fun us hl => match us, hl with | [_, _], _ => rfl
  · refine xinit (F := ⟨"__init__", x_NotDue.qual, x_NotDue.params, x_NotDue.body, x_NotDue.scope, [("__class__", cc)], c⟩) (fi := [("name", 1)]) ns_NotDue Z rfl (fun _ => rfl) (fun _ => rfl) (fun f hf => ?_) rfl (fun a ws h => ?_) (fun A outer s H E => ?_)
    · simp only [List.mem_cons, List.not_mem_nil, or_false] at hf
      rcases hf with rfl
      · exact noB_ok (T.mo 36 rfl)
    · match ws, h with
      | [y1], _ => exact ⟨("name", 1, y1), [], by simp, rfl, rfl, by simp [NdefX.startF]⟩
    · exact pss_cons (ps_ost (pe_var (i := 0) rfl (Or.inl rfl)) (pe_var (i := 1) rfl (Or.inl rfl))) (pss_nil)
theorem ns_NotElement : NdefX.NScope ["self", "value", "__class__"] ["self", "value"] ["__class__"] (defScope s_NotElement___init__) := NdefX.nscope_by (by decide +kernel)
theorem known_NotElement (T : Tx K mg) : XcK P K mg x_NotElement := XcD.known (T.xc 1 rfl).1 (T.xc 1 rfl).2 (fr_super T) (by decide +kernel) (by decide +kernel) (by decide +kernel) rfl (by decide +kernel)
theorem okx_NotElement (T : Tx K mg) : ∃ fd, Binds K fd ["self", "value"] [] ∧ FnOk P w K mg base CX0 1 (xcAd K "NotElement") fd ["self", "value"] (spX (He.ga K "NotElement") ["value"]) := by
  obtain ⟨fd, cc, c, Z⟩ := (known_NotElement T).ex
  refine ⟨fd, ?_, ?_⟩
  · obtain ⟨oc, od, osl, kV, doc, pm, an, ct, rfl, lk⟩ := Z.lk
    exact .all fun us hl => match us, hl with | [_, _], _ => rfl
  · refine xinit (F := ⟨"__init__", x_NotElement.qual, x_NotElement.params, x_NotElement.body, x_NotElement.scope, [("__class__", cc)], c⟩) (fi := [("value", 1)]) ns_NotElement Z rfl (fun _ => rfl) (fun _ => rfl) (fun f hf => ?_) rfl (fun a ws h => ?_) (fun A outer s H E => ?_)
    · simp only [List.mem_cons, List.not_mem_nil, or_false] at hf
      rcases hf with rfl
      · exact noB_ok (T.mo 37 rfl)
    · match ws, h with
      | [y1], _ => exact ⟨("value", 1, y1), [], by simp, rfl, rfl, by simp [NdefX.startF]⟩
    · exact pss_cons (ps_ost (pe_var (i := 0) rfl (Or.inl rfl)) (pe_var (i := 1) rfl (Or.inl rfl))) (pss_nil)
theorem ns_NoSide : NdefX.NScope ["self", "name", "__class__"] ["self", "name"] ["__class__"] (defScope s_NoSide___init__) := NdefX.nscope_by (by decide +kernel)
theorem known_NoSide (T : Tx K mg) : XcK P K mg x_NoSide := XcD.known (T.xc 2 rfl).1 (T.xc 2 rfl).2 (fr_super T) (by decide +kernel) (by decide +kernel) (by decide +kernel) rfl (by decide +kernel)
theorem okx_NoSide (T : Tx K mg) : ∃ fd, Binds K fd ["self", "name"] [] ∧ FnOk P w K mg base CX0 1 (xcAd K "NoSide") fd ["self", "name"] (spX (He.ga K "NoSide") ["name"]) := by
  obtain ⟨fd, cc, c, Z⟩ := (known_NoSide T).ex
  refine ⟨fd, ?_, ?_⟩
  · obtain ⟨oc, od, osl, kV, doc, pm, an, ct, rfl, lk⟩ := Z.lk
    exact .all fun us hl => match us, hl with | [_, _], _ => rfl
  · refine xinit (F := ⟨"__init__", x_NoSide.qual, x_NoSide.params, x_NoSide.body, x_NoSide.scope, [("__class__", cc)], c⟩) (fi := [("name", 1)]) ns_NoSide Z rfl (fun _ => rfl) (fun _ => rfl) (fun f hf => ?_) rfl (fun a ws h => ?_) (fun A outer s H E => ?_)
    · simp only [List.mem_cons, List.not_mem_nil, or_false] at hf
      rcases hf with rfl
      · exact noB_ok (T.mo 38 rfl)
    · match ws, h with
      | [y1], _ => exact ⟨("name", 1, y1), [], by simp, rfl, rfl, by simp [NdefX.startF]⟩
    · exact pss_cons (ps_ost (pe_var (i := 0) rfl (Or.inl rfl)) (pe_var (i := 1) rfl (Or.inl rfl))) (pss_nil)
def m_closure_b1 (size0 : Int) (x34 : (Int × Int)) (s23 : (List Bool)) : Option (List Bool) :=
  (some true >>= fun a47 => (mulM x34.1 size0 >>= fun t46 => some (t46 + x34.2)) >>= fun i48 => setM s23 i48 a47 >>= fun cells_49 => some (cells_49))
def m_closure_b2 (size0 : Int) (x117 : Int) (s103 : (List (List Bool))) : Option (List (List Bool)) :=
  ((rngM 0 size0 >>= fun xs138 => mapS (fun x124 => (rngM 0 size0 >>= fun xs137 => mapS (fun x130 => (orO ((atI s103 x124 >>= fun t133 => atI t133 x130)) ((andO ((atI s103 x124 >>= fun t135 => atI t135 x117)) ((atI s103 x117 >>= fun t136 => atI t136 x130)))))) xs137)) xs138) >>= fun rows_139 => some (rows_139))
def m_closure (size0 : Int) (pairs0 : (List (Int × Int))) : Option (List (List Bool)) :=
  ((mulM size0 size0 >>= fun t8 => (rngM 0 t8 >>= fun xs7 => mapS (fun x4 => some false) xs7)) >>= fun cells_9 => (some pairs0 >>= fun xs18 => forS (m_closure_b1 size0) xs18 cells_9 >>= fun s23 => ((rngM 0 size0 >>= fun xs85 => mapS (fun x73 => (rngM 0 size0 >>= fun xs84 => mapS (fun x79 => (orO (some (x73 == x79)) (((mulM x73 size0 >>= fun t82 => some (t82 + x79)) >>= fun t83 => atI s23 t83)))) xs84)) xs85) >>= fun rows_86 => (some size0 >>= fun n96 => rngM 0 n96 >>= fun xs98 => forS (m_closure_b2 size0) xs98 rows_86 >>= fun s103 => (some s103 >>= fun a157 => some a157)))))
theorem sc_closure : FnScope ["size", "pairs", "cells", "rows", "m", "low", "high", "_", "a", "b"] ["size", "pairs"] (defScope s_closure) := ⟨rfl, rfl, rfl, by decide +kernel, rfl, by decide +kernel, by decide +kernel⟩
theorem ok_closure (T : Tx K mg) : Fk P w K mg base CX0 1 "closure" ["size", "pairs"] (PF (aC rI (aC (rL (rP rI rI)) aN)) (rL (rL rB)) (fun i => m_closure i.1 i.2.1)) := by
  obtain ⟨fd, F⟩ := T.def_ 5 rfl
  have nd := sc_closure.nd
  refine fk_mk T.toTx (x := "closure") (T.glo 15 rfl) F (fun _ _ _ _ _ _ us hl => match us, hl with | [_, _], _ => rfl) (F.ok sc_closure (fun vs H Q E h => ?_) (fun cdv A outer s H vs Q E hr h => ?_))
  · obtain ⟨G, ⟨size0, pairs0, ⟨⟩⟩, r, e0, ⟨vsize0, _, rfl, hsize0, vpairs0, _, rfl, hpairs0, rfl⟩, h, k⟩ := h
    rfl
  · obtain ⟨G, ⟨size0, pairs0, ⟨⟩⟩, r, e0, ⟨vsize0, _, rfl, hsize0, vpairs0, _, rfl, hpairs0, rfl⟩, h, k⟩ := h
    cases hsize0
    have w0 := Wo.start e0
    have h : m_closure size0 pairs0 = some r := h
    unfold m_closure at h
    refine ⟨_, PSs.nox (pss_cons (ps_set (i := 2) nd rfl (Or.inr rfl) (pe_lc (own := [("_", 7)]) (by rfl) nd (pi_range1 (by rfl) (fr_range T) (pa_cons (pe_op op_mul (pv 0) (pv 0)) pa_nil)) (blkOk_by (by kernel_rfl)) (fun _ _ _ _ _ => pg_name (i := 7) nd rfl (by first | exact Or.inl rfl | exact Or.inr rfl)) (fun _ _ _ _ _ => pts_nil) (fun _ _ _ _ _ => pe_bl))) (pss_cons (ps_for PassesOwn.never rfl (pi_list (pv 1)) (pg_tup (by rfl) (pgs_cons (pg_name (i := 5) nd rfl (by first | exact Or.inl rfl | exact Or.inr rfl)) (pgs_cons (pg_name (i := 6) nd rfl (by first | exact Or.inl rfl | exact Or.inr rfl)) pgs_nil))) (pss_cons (ps_asg pe_bl (pg_sub (pv 2) (pe_op op_add (pe_op op_mul (pv 5) (pv 0)) (pv 6)) set_list)) pss_nil)) (pss_cons (ps_set (i := 3) nd rfl (Or.inr rfl) (pe_lc (own := [("a", 8)]) (by rfl) nd (pi_range1 (by rfl) (fr_range T) (pa_cons (pv 0) pa_nil)) (blkOk_by (by kernel_rfl)) (fun _ _ _ _ _ => pg_name (i := 8) nd rfl (by first | exact Or.inl rfl | exact Or.inr rfl)) (fun _ _ _ _ _ => pts_nil) (fun _ _ _ _ _ => (pe_lc (own := [("b", 9)]) (by rfl) nd (pi_range1 (by rfl) (fr_range T) (pa_cons (pv 0) pa_nil)) (blkOk_by (by kernel_rfl)) (fun _ _ _ _ _ => pg_name (i := 9) nd rfl (by first | exact Or.inl rfl | exact Or.inr rfl)) (fun _ _ _ _ _ => pts_nil) (fun _ _ _ _ _ => (pe_or (pe_cmpR op_eq (pv 8) (pv 9) (nomark _)) (pe_one (pe_ix (r := rIxL K) ix_list (pv 2) (pe_op op_add (pe_op op_mul (pv 8) (pv 0)) (pv 9)) (fun _ _ => rfl))))))))) (pss_cons (ps_for PassesOwn.never rfl (pi_range1 (by rfl) (fr_range T) (pa_cons (pv 0) pa_nil)) (pg_name (i := 4) nd rfl (Or.inr rfl)) (pss_cons (ps_set (i := 3) nd rfl (Or.inr rfl) (pe_lc (own := [("a", 8)]) (by rfl) nd (pi_range1 (by rfl) (fr_range T) (pa_cons (pv 0) pa_nil)) (blkOk_by (by kernel_rfl)) (fun _ _ _ _ _ => pg_name (i := 8) nd rfl (by first | exact Or.inl rfl | exact Or.inr rfl)) (fun _ _ _ _ _ => pts_nil) (fun _ _ _ _ _ => (pe_lc (own := [("b", 9)]) (by rfl) nd (pi_range1 (by rfl) (fr_range T) (pa_cons (pv 0) pa_nil)) (blkOk_by (by kernel_rfl)) (fun _ _ _ _ _ => pg_name (i := 9) nd rfl (by first | exact Or.inl rfl | exact Or.inr rfl)) (fun _ _ _ _ _ => pts_nil) (fun _ _ _ _ _ => (pe_or (pe_ix (r := rIxL K) ix_list (pe_ix (r := rIxL K) ix_list (pv 3) (pv 8) (fun _ _ => rfl)) (pv 9) (fun _ _ => rfl)) (pe_one (pe_and (pe_ix (r := rIxL K) ix_list (pe_ix (r := rIxL K) ix_list (pv 3) (pv 8) (fun _ _ => rfl)) (pv 4) (fun _ _ => rfl)) (pe_one (pe_ix (r := rIxL K) ix_list (pe_ix (r := rIxL K) ix_list (pv 3) (pv 4) (fun _ _ => rfl)) (pv 9) (fun _ _ => rfl))))))))))) pss_nil)) (pss_cons (ps_ret (pv 3)) pss_nil))))), ?_⟩
    obtain ⟨cells_9, hx10, h⟩ := bindS h
    refine x_setL w0 (el_mapR (el_lcR (j := 7) (ea_cons (e_op rr_mul (e_var (R := rI) (x := size0) rfl rfl) (e_var (R := rI) (x := size0) rfl rfl)) ea_nil) (fun _ => rfl) (fun _ _ _ _ _ _ => et_yes) (fun x4 G5 W6 eG1 eW2 eX3 => e_bl))) (by first | (simp only [be1, bs1, ba1] at hx10 ⊢; exact hx10) | exact hx10) ?_
    intro p13 H11 G14 n15 w12 e16
    have h17 := Rep.mono _ e16 hpairs0
    obtain ⟨xs18, hx19, h⟩ := bindS h
    obtain ⟨t21, hx22, h⟩ := bindS h
    refine x_forL w12 (e_var (R := (rL (rP rI rI))) (x := pairs0) rfl h17) hx19 (fun i G' H' σ' => ∃ s23 : (List Bool), ∃ u24 : Option V, ∃ u25 : Option V, Wo G H [] G' H' [(p13, cL rB s23)] ∧ Evl.Ex G14 G' ∧ σ' = [some (V.int size0), some vpairs0, some (V.ref p13), none, none, u25, u24, none, none, none] ∧ forS (m_closure_b1 size0) (xs18.drop i) s23 = some t21) (fun _ _ _ _ ⟨_, _, _, w, _⟩ => w.ex) ?_ ?_ ?_
    · intro G' H' w' e'
      exact ⟨cells_9, (none), (none), w', e', rfl, hx22⟩
    · rintro G36 e37 i33 x34 v38 σ' G29 H32 hx35 e40 ⟨s23, u24, u25, w30, e31, rfl, hm27⟩ r39
      obtain ⟨q28, hb26, hm27⟩ := forS_at hx35 hm27
      have h41 := Rep.mono _ e31 h17
      refine g_pair (i := 5) (j := 6) r39 w30.ex ?_
      intro v42 v43 r44 r45
      cases r44
      cases r45
      unfold m_closure_b1 at hb26
      obtain ⟨a47, hx50, hb26⟩ := bindS hb26
      obtain ⟨i48, hx51, hb26⟩ := bindS hb26
      obtain ⟨cells_49, hx52, hb26⟩ := bindS hb26
      refine x_setIx (j := 0) w30 rfl rfl e_bl (by first | (simp only [be1, bs1, ba1] at hx50 ⊢; exact hx50) | exact hx50) (e_op rr_add (e_op rr_mul (e_var (R := rI) (x := x34.1) rfl rfl) (e_var (R := rI) (x := size0) rfl rfl)) (e_var (R := rI) (x := x34.2) rfl rfl)) (by first | (simp only [be1, bs1, ba1] at hx51 ⊢; exact hx51) | exact hx51) hx52 ?_
      intro H53 G54 w55 e56
      have h57 := Rep.mono _ e56 h41
      have w55 : Wo G H [] G54 H53 [(p13, cL rB cells_49)] := w55
      refine x_next ?_
      have hb26 : cells_49 = q28 := Option.some.inj hb26
      subst hb26
      exact ⟨G54, (e40.trans e56), cells_49, (some (V.int x34.2)), (some (V.int x34.1)), w55, (e31.trans e56), rfl, hm27⟩
    · rintro σ' G58 H61 e62 ⟨s23, u24, u25, w59, e60, rfl, hm27⟩
      have hm27 := forS_end hm27
      subst hm27
      have h64 := Rep.mono _ e60 h17
      obtain ⟨G65, w66, e67, h68⟩ := w59.freezeAt (i := 0) rfl n15
      have h69 := Rep.mono _ e67 h64
      have w66 : Wo G H [] G65 H61 [] := w66
      obtain ⟨rows_86, hx87, h⟩ := bindS h
      refine x_set w66 (EL.e (el_mapR (el_lcR (j := 8) (ea_cons (e_var (R := rI) (x := size0) rfl rfl) ea_nil) (fun _ => rfl) (fun _ _ _ _ _ _ => et_yes) (fun x73 G74 W75 eG70 eW71 eX72 => (EL.e (el_mapR (el_lcR (j := 9) (ea_cons (e_var (R := rI) (x := size0) rfl rfl) ea_nil) (fun _ => rfl) (fun _ _ _ _ _ _ => et_yes) (fun x79 G80 W81 eG76 eW77 eX78 => (e_orV (e_op rr_eqI (e_var (R := rI) (x := x73) rfl rfl) (e_var (R := rI) (x := x79) rfl rfl)) (e_op rr_ixL (e_var (R := (rL rB)) (x := s23) rfl (Rep.mono _ eG76 (Rep.mono _ eG70 h68))) (e_op rr_add (e_op rr_mul (e_var (R := rI) (x := x73) rfl rfl) (e_var (R := rI) (x := size0) rfl rfl)) (e_var (R := rI) (x := x79) rfl rfl)))))))))))) (by first | (simp only [be1, bs1, ba1] at hx87 ⊢; exact hx87) | exact hx87) ?_
      intro v90 H88 G91 w89 e92 h93
      have h94 := Rep.mono _ e92 h69
      have h95 := Rep.mono _ e92 h68
      obtain ⟨n96, hx97, h⟩ := bindS h
      obtain ⟨xs98, hx99, h⟩ := bindS h
      obtain ⟨t101, hx102, h⟩ := bindS h
      refine x_forR w89 (ea_cons (Sim.E.is (e_var (R := rI) (x := size0) rfl rfl) hx97) ea_nil) rfl hx99 (fun i G' H' σ' => ∃ s103 : (List (List Bool)), ∃ v104 : V, ∃ u106 : Option V, ∃ u107 : Option V, ∃ u108 : Option V, Wo G H [] G' H' [] ∧ Evl.Ex G91 G' ∧ σ' = [some (V.int size0), some vpairs0, some (V.ref p13), some v104, u108, u25, u24, none, u106, u107] ∧ (rL (rL rB)).r G' v104 s103 ∧ forS (m_closure_b2 size0) (xs98.drop i) s103 = some t101) ?_ ?_ ?_
      · intro G' H' w' e'
        exact ⟨rows_86, v90, (none), (none), (none), w', e', rfl, (Rep.mono _ e' h93), hx102⟩
      · rintro i116 x117 σ' G112 H115 hx118 ⟨s103, v104, u106, u107, u108, w113, e114, rfl, h105, hm110⟩
        obtain ⟨q111, hb109, hm110⟩ := forS_at hx118 hm110
        have h119 := Rep.mono _ e114 h94
        have h120 := Rep.mono _ e114 h95
        refine g_name ?_
        unfold m_closure_b2 at hb109
        obtain ⟨rows_139, hx140, hb109⟩ := bindS hb109
        refine x_set w113 (EL.e (el_mapR (el_lcR (j := 8) (ea_cons (e_var (R := rI) (x := size0) rfl rfl) ea_nil) (fun _ => rfl) (fun _ _ _ _ _ _ => et_yes) (fun x124 G125 W126 eG121 eW122 eX123 => (EL.e (el_mapR (el_lcR (j := 9) (ea_cons (e_var (R := rI) (x := size0) rfl rfl) ea_nil) (fun _ => rfl) (fun _ _ _ _ _ _ => et_yes) (fun x130 G131 W132 eG127 eW128 eX129 => (e_orV (e_op rr_ixL (e_op rr_ixL (e_var (R := (rL (rL rB))) (x := s103) rfl (Rep.mono _ eG127 (Rep.mono _ eG121 h105))) (e_var (R := rI) (x := x124) rfl rfl)) (e_var (R := rI) (x := x130) rfl rfl)) (e_andV (e_op rr_ixL (e_op rr_ixL (e_var (R := (rL (rL rB))) (x := s103) rfl (Rep.mono _ eG127 (Rep.mono _ eG121 h105))) (e_var (R := rI) (x := x124) rfl rfl)) (e_var (R := rI) (x := x117) rfl rfl)) (e_op rr_ixL (e_op rr_ixL (e_var (R := (rL (rL rB))) (x := s103) rfl (Rep.mono _ eG127 (Rep.mono _ eG121 h105))) (e_var (R := rI) (x := x117) rfl rfl)) (e_var (R := rI) (x := x130) rfl rfl)))))))))))) (by first | (simp only [be1, bs1, ba1] at hx140 ⊢; exact hx140) | exact hx140) ?_
        intro v143 H141 G144 w142 e145 h146
        have h147 := Rep.mono _ e145 h119
        have h148 := Rep.mono _ e145 h120
        have h149 := Rep.mono _ e145 h105
        refine x_next ?_
        have hb109 : rows_139 = q111 := Option.some.inj hb109
        subst hb109
        exact ⟨G144, rows_139, v143, (u106), (u107), (some (V.int x117)), w142, (e114.trans e145), rfl, h146, hm110⟩
      · rintro σ' G150 H153 ⟨s103, v104, u106, u107, u108, w151, e152, rfl, h105, hm110⟩
        have hm110 := forS_end hm110
        subst hm110
        have h155 := Rep.mono _ e152 h94
        have h156 := Rep.mono _ e152 h95
        obtain ⟨a157, hx158, h⟩ := bindS h
        have h : a157 = r := Option.some.inj h
        subst h
        exact x_ret w151 (e_var (R := (rL (rL rB))) (x := s103) rfl h105) hx158 (fun v9 H9 G9 w9 e9 r9 => k v9 H9 G9 w9.upE r9)
def m_turned (rows0 : (List (List Bool))) : Option (List (List Bool)) :=
  ((rngM 0 (rows0.length : Int) >>= fun xs173 => mapS (fun x162 => (rngM 0 (rows0.length : Int) >>= fun xs172 => mapS (fun x168 => (atI rows0 x168 >>= fun t171 => atI t171 x162)) xs172)) xs173) >>= fun a174 => some a174)
theorem sc_turned : FnScope ["rows", "a", "b"] ["rows"] (defScope s_turned) := ⟨rfl, rfl, rfl, by decide +kernel, rfl, by decide +kernel, by decide +kernel⟩
theorem ok_turned (T : Tx K mg) : Fk P w K mg base CX0 1 "turned" ["rows"] (PF (aC (rL (rL rB)) aN) (rL (rL rB)) (fun i => m_turned i.1)) := by
  obtain ⟨fd, F⟩ := T.def_ 6 rfl
  have nd := sc_turned.nd
  refine fk_mk T.toTx (x := "turned") (T.glo 16 rfl) F (fun _ _ _ _ _ _ us hl => match us, hl with | [_], _ => rfl) (F.ok sc_turned (fun vs H Q E h => ?_) (fun cdv A outer s H vs Q E hr h => ?_))
  · obtain ⟨G, ⟨rows0, ⟨⟩⟩, r, e0, ⟨vrows0, _, rfl, hrows0, rfl⟩, h, k⟩ := h
    rfl
  · obtain ⟨G, ⟨rows0, ⟨⟩⟩, r, e0, ⟨vrows0, _, rfl, hrows0, rfl⟩, h, k⟩ := h
    have w0 := Wo.start e0
    have h : m_turned rows0 = some r := h
    unfold m_turned at h
    refine ⟨_, PSs.nox (pss_cons (ps_ret (pe_lc (own := [("a", 1)]) (by rfl) nd (pi_range1 (by rfl) (fr_range T) (pa_cons (pe_callB (r := rLn K) call_len_seq (by rfl) (fr_len T) (by decide +kernel) (pa_cons (pv 0) pa_nil)) pa_nil)) (blkOk_by (by kernel_rfl)) (fun _ _ _ _ _ => pg_name (i := 1) nd rfl (by first | exact Or.inl rfl | exact Or.inr rfl)) (fun _ _ _ _ _ => pts_nil) (fun _ _ _ _ _ => (pe_lc (own := [("b", 2)]) (by rfl) nd (pi_range1 (by rfl) (fr_range T) (pa_cons (pe_callB (r := rLn K) call_len_seq (by rfl) (fr_len T) (by decide +kernel) (pa_cons (pv 0) pa_nil)) pa_nil)) (blkOk_by (by kernel_rfl)) (fun _ _ _ _ _ => pg_name (i := 2) nd rfl (by first | exact Or.inl rfl | exact Or.inr rfl)) (fun _ _ _ _ _ => pts_nil) (fun _ _ _ _ _ => (pe_ix (r := rIxL K) ix_list (pe_ix (r := rIxL K) ix_list (pv 0) (pv 2) (fun _ _ => rfl)) (pv 1) (fun _ _ => rfl))))))) pss_nil), ?_⟩
    obtain ⟨a174, hx175, h⟩ := bindS h
    have h : a174 = r := Option.some.inj h
    subst h
    exact x_ret w0 (EL.e (el_mapR (el_lcR (j := 1) (ea_cons (e_cb rc_lenL (ea_cons (e_var (R := (rL (rL rB))) (x := rows0) rfl hrows0) ea_nil)) ea_nil) (fun _ => rfl) (fun _ _ _ _ _ _ => et_yes) (fun x162 G163 W164 eG159 eW160 eX161 => (EL.e (el_mapR (el_lcR (j := 2) (ea_cons (e_cb rc_lenL (ea_cons (e_var (R := (rL (rL rB))) (x := rows0) rfl (Rep.mono _ eG159 hrows0)) ea_nil)) ea_nil) (fun _ => rfl) (fun _ _ _ _ _ _ => et_yes) (fun x168 G169 W170 eG165 eW166 eX167 => (e_op rr_ixL (e_op rr_ixL (e_var (R := (rL (rL rB))) (x := rows0) rfl (Rep.mono _ eG165 (Rep.mono _ eG159 hrows0))) (e_var (R := rI) (x := x168) rfl rfl)) (e_var (R := rI) (x := x162) rfl rfl)))))))))) (by first | (simp only [be1, bs1, ba1] at hx175 ⊢; exact hx175) | exact hx175) (fun v9 H9 G9 w9 e9 r9 => k v9 H9 G9 w9.upE r9)
def m_least_above_b1 (rows0 : (List (List Bool))) (uppers_185 : (List Int)) (x210 : Int) (s199 : Unit) : Option (Stp Unit (Option Int)) :=
  (((lcS (fun x222 => (atI rows0 x210 >>= fun t227 => atI t227 x222)) (fun x222 => some x222) uppers_185 >>= fun t229 => some (t229.length : Int)) >>= fun t230 => some (t230 == (uppers_185.length : Int))) >>= fun b231 => bif b231 then (some (some x210) >>= fun a235 => some (Stp.rt a235)) else some (Stp.nx ()))
def m_least_above (rows0 : (List (List Bool))) (first0 : Int) (second0 : Int) : Option (Option Int) :=
  ((rngM 0 (rows0.length : Int) >>= fun xs184 => lcS (fun x179 => (andO ((atI rows0 first0 >>= fun t182 => atI t182 x179)) ((atI rows0 second0 >>= fun t183 => atI t183 x179)))) (fun x179 => some x179) xs184) >>= fun uppers_185 => (some uppers_185 >>= fun xs194 => forL (m_least_above_b1 rows0 uppers_185) xs194 () >>= Sum.elim (fun s199 => (some (none : (Option Int)) >>= fun a247 => some a247)) (fun r => some r)))
theorem sc_least_above : FnScope ["rows", "first", "second", "uppers", "found", "e"] ["rows", "first", "second"] (defScope s_least_above) := ⟨rfl, rfl, rfl, by decide +kernel, rfl, by decide +kernel, by decide +kernel⟩
theorem ok_least_above (T : Tx K mg) : Fk P w K mg base CX0 1 "least_above" ["rows", "first", "second"] (PF (aC (rL (rL rB)) (aC rI (aC rI aN))) (rO rI) (fun i => m_least_above i.1 i.2.1 i.2.2.1)) := by
  obtain ⟨fd, F⟩ := T.def_ 7 rfl
  have nd := sc_least_above.nd
  refine fk_mk T.toTx (x := "least_above") (T.glo 17 rfl) F (fun _ _ _ _ _ _ us hl => match us, hl with | [_, _, _], _ => rfl) (F.ok sc_least_above (fun vs H Q E h => ?_) (fun cdv A outer s H vs Q E hr h => ?_))
  · obtain ⟨G, ⟨rows0, first0, second0, ⟨⟩⟩, r, e0, ⟨vrows0, _, rfl, hrows0, vfirst0, _, rfl, hfirst0, vsecond0, _, rfl, hsecond0, rfl⟩, h, k⟩ := h
    rfl
  · obtain ⟨G, ⟨rows0, first0, second0, ⟨⟩⟩, r, e0, ⟨vrows0, _, rfl, hrows0, vfirst0, _, rfl, hfirst0, vsecond0, _, rfl, hsecond0, rfl⟩, h, k⟩ := h
    cases hfirst0
    cases hsecond0
    have w0 := Wo.start e0
    have h : m_least_above rows0 first0 second0 = some r := h
    unfold m_least_above at h
    refine ⟨_, PSs.nox (pss_cons (ps_setLc (i := 3) (own := [("e", 5)]) (by rfl) nd rfl rfl (sw_true rfl rfl rfl (by decide +kernel)) (pi_range1 (by rfl) (fr_range T) (pa_cons (pe_callB (r := rLn K) call_len_seq (by rfl) (fr_len T) (by decide +kernel) (pa_cons (pv 0) pa_nil)) pa_nil)) (blkOk_by (by kernel_rfl)) (fun _ _ _ _ _ => pg_name (i := 5) nd rfl (by first | exact Or.inl rfl | exact Or.inr rfl)) (fun _ _ _ _ _ => pts_one (PW.pt (pw_and (pt_val (pe_ix (r := rIxL K) ix_list (pe_ix (r := rIxL K) ix_list (pv 0) (pv 1) (fun _ _ => rfl)) (pv 5) (fun _ _ => rfl))) (pw_and1 (pt_val (pe_ix (r := rIxL K) ix_list (pe_ix (r := rIxL K) ix_list (pv 0) (pv 2) (fun _ _ => rfl)) (pv 5) (fun _ _ => rfl))))))) (fun _ _ _ _ _ => (pv 5))) (pss_cons (ps_for PassesOwn.never rfl (pi_list (pv 3)) (pg_name (i := 4) nd rfl (Or.inr rfl)) (pss_cons (ps_if (pt_cmpR op_eq (pe_callB (r := rLn K) call_len_seq (by rfl) (fr_len T) (by decide +kernel) (pa_cons (pe_lc (own := [("e", 5)]) (by rfl) nd (show L2.PI _ _ _ (iList K _) from pi_list (pv 3)) (blkOk_by (by kernel_rfl)) (fun _ _ _ _ _ => pg_name (i := 5) nd rfl (by first | exact Or.inl rfl | exact Or.inr rfl)) (fun _ _ _ _ _ => pts_one (pt_val (pe_ix (r := rIxL K) ix_list (pe_ix (r := rIxL K) ix_list (pv 0) (pv 4) (fun _ _ => rfl)) (pv 5) (fun _ _ => rfl)))) (fun _ _ _ _ _ => (pv 5))) pa_nil)) (pe_callB (r := rLn K) call_len_seq (by rfl) (fr_len T) (by decide +kernel) (pa_cons (pv 3) pa_nil)) (nomark _)) (pss_cons (ps_ret (pv 4)) pss_nil) pss_nil) pss_nil)) (pss_cons (ps_ret pe_non) pss_nil))), ?_⟩
    obtain ⟨uppers_185, hx186, h⟩ := bindS h
    refine x_set w0 (EL.e (el_lcR (j := 5) (ea_cons (e_cb rc_lenL (ea_cons (e_var (R := (rL (rL rB))) (x := rows0) rfl hrows0) ea_nil)) ea_nil) (fun _ => rfl) (fun x179 G180 W181 eG176 eW177 eX178 => (et_and (et_B (e_op rr_ixL (e_op rr_ixL (e_var (R := (rL (rL rB))) (x := rows0) rfl (Rep.mono _ eX178 (Rep.mono _ eG176 hrows0))) (e_var (R := rI) (x := first0) rfl rfl)) (e_var (R := rI) (x := x179) rfl rfl))) (et_B (e_op rr_ixL (e_op rr_ixL (e_var (R := (rL (rL rB))) (x := rows0) rfl (Rep.mono _ eX178 (Rep.mono _ eG176 hrows0))) (e_var (R := rI) (x := second0) rfl rfl)) (e_var (R := rI) (x := x179) rfl rfl))))) (fun x179 G180 W181 eG176 eW177 eX178 => (e_var (R := rI) (x := x179) rfl rfl)))) (by first | (simp only [be1, bs1, ba1] at hx186 ⊢; exact hx186) | exact hx186) ?_
    intro v189 H187 G190 w188 e191 h192
    have h193 := Rep.mono _ e191 hrows0
    obtain ⟨xs194, hx195, h⟩ := bindS h
    obtain ⟨t197, hx198, h⟩ := bindS h
    refine x_forL w188 (e_var (R := (rL rI)) (x := uppers_185) rfl h192) hx195 (fun i G' H' σ' => ∃ s199 : Unit, ∃ u200 : Option V, ∃ u201 : Option V, Wo G H [] G' H' [] ∧ Evl.Ex G190 G' ∧ σ' = [some vrows0, some (V.int first0), some (V.int second0), some v189, u201, u200] ∧ forL (m_least_above_b1 rows0 uppers_185) (xs194.drop i) s199 = some t197) (fun _ _ _ _ ⟨_, _, _, w, _⟩ => w.ex) ?_ ?_ ?_
    · intro G' H' w' e'
      exact ⟨(), (none), (none), w', e', rfl, hx198⟩
    · rintro G212 e213 i209 x210 v214 σ' G205 H208 hx211 e216 ⟨s199, u200, u201, w206, e207, rfl, hm203⟩ r215
      obtain ⟨q204, hb202, hm203⟩ := forL_at hx211 hm203
      have h217 := Rep.mono _ e207 h193
      have h218 := Rep.mono _ e207 h192
      refine g_name ?_
      cases r215
      unfold m_least_above_b1 at hb202
      obtain ⟨b231, hx232, hb202⟩ := bindS hb202
      refine x_if w206 (et_T (e_op rr_eqI (e_cb rc_lenL (ea_cons (EL.e (el_lcL (j := 5) (e_var (R := (rL rI)) (x := uppers_185) rfl (Rep.mono _ w206.ex h218)) (fun _ => rfl) (fun x222 v225 G223 W224 eG219 eW220 eX221 h226 => (et_B (e_op rr_ixL (e_op rr_ixL (e_var (R := (rL (rL rB))) (x := rows0) rfl (Rep.mono _ eX221 (Rep.mono _ eG219 (Rep.mono _ w206.ex h217)))) (e_var (R := rI) (x := x210) rfl rfl)) (e_var (R := rI) (x := x222) rfl (Rep.mono _ eX221 h226))))) (fun x222 v225 G223 W224 eG219 eW220 eX221 h226 => (e_var (R := rI) (x := x222) rfl h226)))) ea_nil)) (e_cb rc_lenL (ea_cons (e_var (R := (rL rI)) (x := uppers_185) rfl (Rep.mono _ w206.ex h218)) ea_nil)))) (by first | (simp only [be1, bs1, ba1] at hx232 ⊢; exact hx232) | exact hx232) ?_ ?_
      · intro hbb231 H233 w234
        subst hbb231
        have hb202 := bifT hb202
        obtain ⟨a235, hx236, hb202⟩ := bindS hb202
        have hb202 : some (Stp.rt a235) = some q204 := hb202
        cases hb202
        have hm203 : some (Sum.inr a235) = some t197 := hm203
        cases hm203
        have h : a235 = r := Option.some.inj h
        subst h
        exact x_ret w234 (e_some (e_var (R := rI) (x := x210) rfl rfl)) hx236 (fun v9 H9 G9 w9 e9 r9 => k v9 H9 G9 w9.upE r9)
      · intro hbb231 H237 w238
        subst hbb231
        have hb202 := bifF hb202
        refine x_next ?_
        refine x_next ?_
        have hb202 : Stp.nx () = q204 := Option.some.inj hb202
        subst hb202
        exact ⟨G205, (e216.trans (Evl.Ex.refl _)), (), (u200), (some (V.int x210)), w238, e207, rfl, hm203⟩
    · rintro σ' G239 H242 e243 ⟨s199, u200, u201, w240, e241, rfl, hm203⟩
      have hm203 := forL_end hm203
      subst hm203
      have h := elimL h
      have h245 := Rep.mono _ e241 h193
      have h246 := Rep.mono _ e241 h192
      obtain ⟨a247, hx248, h⟩ := bindS h
      have h : a247 = r := Option.some.inj h
      subst h
      exact x_ret w240 (e_none (R := rI)) hx248 (fun v9 H9 G9 w9 e9 r9 => k v9 H9 G9 w9.upE r9)
def m_bounds_table (rows0 : (List (List Bool))) : Option (List (List (Option Int))) :=
  (some (rows0.length : Int) >>= fun size_249 => ((rngM 0 size_249 >>= fun xs266 => mapS (fun x256 => (rngM 0 size_249 >>= fun xs265 => mapS (fun x262 => m_least_above rows0 x256 x262) xs265)) xs266) >>= fun a267 => some a267))
theorem sc_bounds_table : FnScope ["rows", "size", "a", "b"] ["rows"] (defScope s_bounds_table) := ⟨rfl, rfl, rfl, by decide +kernel, rfl, by decide +kernel, by decide +kernel⟩
theorem ok_bounds_table (T : Tx K mg) : Fk P w K mg base CX0 2 "bounds_table" ["rows"] (PF (aC (rL (rL rB)) aN) (rL (rL (rO rI))) (fun i => m_bounds_table i.1)) := by
  obtain ⟨fd_least_above, G_least_above, b_least_above, k_least_above, g_least_above⟩ := ok_least_above (w := w) (base := base) T
  obtain ⟨fd, F⟩ := T.def_ 8 rfl
  have nd := sc_bounds_table.nd
  refine fk_mk T.toTx (x := "bounds_table") (T.glo 18 rfl) F (fun _ _ _ _ _ _ us hl => match us, hl with | [_], _ => rfl) (F.ok sc_bounds_table (fun vs H Q E h => ?_) (fun cdv A outer s H vs Q E hr h => ?_))
  · obtain ⟨G, ⟨rows0, ⟨⟩⟩, r, e0, ⟨vrows0, _, rfl, hrows0, rfl⟩, h, k⟩ := h
    rfl
  · obtain ⟨G, ⟨rows0, ⟨⟩⟩, r, e0, ⟨vrows0, _, rfl, hrows0, rfl⟩, h, k⟩ := h
    have w0 := Wo.start e0
    have h : m_bounds_table rows0 = some r := h
    unfold m_bounds_table at h
    refine ⟨_, PSs.nox (pss_cons (ps_set (i := 1) nd rfl (Or.inr rfl) (pe_callB (r := rLn K) call_len_seq (by rfl) (fr_len T) (by decide +kernel) (pa_cons (pv 0) pa_nil))) (pss_cons (ps_ret (pe_lc (own := [("a", 2)]) (by rfl) nd (pi_range1 (by rfl) (fr_range T) (pa_cons (pv 1) pa_nil)) (blkOk_by (by kernel_rfl)) (fun _ _ _ _ _ => pg_name (i := 2) nd rfl (by first | exact Or.inl rfl | exact Or.inr rfl)) (fun _ _ _ _ _ => pts_nil) (fun _ _ _ _ _ => (pe_lc (own := [("b", 3)]) (by rfl) nd (pi_range1 (by rfl) (fr_range T) (pa_cons (pv 1) pa_nil)) (blkOk_by (by kernel_rfl)) (fun _ _ _ _ _ => pg_name (i := 3) nd rfl (by first | exact Or.inl rfl | exact Or.inr rfl)) (fun _ _ _ _ _ => pts_nil) (fun _ _ _ _ _ => (pe_call G_least_above (hr.mono (by decide)) rfl g_least_above k_least_above b_least_above .nil pass0 (pa_cons (pv 0) (pa_cons (pv 2) (pa_cons (pv 3) pa_nil))))))))) pss_nil)), ?_⟩
    obtain ⟨size_249, hx250, h⟩ := bindS h
    refine x_setI w0 (e_cb rc_lenL (ea_cons (e_var (R := (rL (rL rB))) (x := rows0) rfl hrows0) ea_nil)) hx250 ?_
    intro H251 w252
    obtain ⟨a267, hx268, h⟩ := bindS h
    have h : a267 = r := Option.some.inj h
    subst h
    exact x_ret w252 (EL.e (el_mapR (el_lcR (j := 2) (ea_cons (e_var (R := rI) (x := size_249) rfl rfl) ea_nil) (fun _ => rfl) (fun _ _ _ _ _ _ => et_yes) (fun x256 G257 W258 eG253 eW254 eX255 => (EL.e (el_mapR (el_lcR (j := 3) (ea_cons (e_var (R := rI) (x := size_249) rfl rfl) ea_nil) (fun _ => rfl) (fun _ _ _ _ _ _ => et_yes) (fun x262 G263 W264 eG259 eW260 eX261 => (e_call (ea_cons (e_var (R := (rL (rL rB))) (x := rows0) rfl (Rep.mono _ eG259 (Rep.mono _ eG253 hrows0))) (ea_cons (e_var (R := rI) (x := x256) rfl rfl) (ea_cons (e_var (R := rI) (x := x262) rfl rfl) ea_nil)))))))))))) (by first | (simp only [be1, bs1, ba1] at hx268 ⊢; exact hx268) | exact hx268) (fun v9 H9 G9 w9 e9 r9 => k v9 H9 G9 w9.upE r9)
def m_first_ring_b2 (rows0 : (List (List Bool))) (x287 : Int) (x309 : Int) (s299 : Unit) : Option (Stp Unit (Option (Int × Int))) :=
  ((andO ((atI rows0 x287 >>= fun t312 => atI t312 x309)) ((atI rows0 x309 >>= fun t313 => atI t313 x287))) >>= fun b314 => bif b314 then (some (some (x287, x309)) >>= fun a318 => some (Stp.rt a318)) else some (Stp.nx ()))
def m_first_ring_b1 (rows0 : (List (List Bool))) (x287 : Int) (s276 : Unit) : Option (Stp Unit (Option (Int × Int))) :=
  (some (x287 + (1 : Int)) >>= fun n290 => some (rows0.length : Int) >>= fun n292 => rngM n290 n292 >>= fun xs294 => forL (m_first_ring_b2 rows0 x287) xs294 () >>= Sum.elim (fun s299 => some (Stp.nx ())) (fun r => some (Stp.rt r)))
def m_first_ring (rows0 : (List (List Bool))) : Option (Option (Int × Int)) :=
  (some (rows0.length : Int) >>= fun n269 => rngM 0 n269 >>= fun xs271 => forL (m_first_ring_b1 rows0) xs271 () >>= Sum.elim (fun s276 => (some (none : (Option (Int × Int))) >>= fun a334 => some a334)) (fun r => some r))
theorem sc_first_ring : FnScope ["rows", "first", "second"] ["rows"] (defScope s_first_ring) := ⟨rfl, rfl, rfl, by decide +kernel, rfl, by decide +kernel, by decide +kernel⟩
theorem ok_first_ring (T : Tx K mg) : Fk P w K mg base CX0 1 "first_ring" ["rows"] (PF (aC (rL (rL rB)) aN) (rO (rP rI rI)) (fun i => m_first_ring i.1)) := by
  obtain ⟨fd, F⟩ := T.def_ 9 rfl
  have nd := sc_first_ring.nd
  refine fk_mk T.toTx (x := "first_ring") (T.glo 19 rfl) F (fun _ _ _ _ _ _ us hl => match us, hl with | [_], _ => rfl) (F.ok sc_first_ring (fun vs H Q E h => ?_) (fun cdv A outer s H vs Q E hr h => ?_))
  · obtain ⟨G, ⟨rows0, ⟨⟩⟩, r, e0, ⟨vrows0, _, rfl, hrows0, rfl⟩, h, k⟩ := h
    rfl
  · obtain ⟨G, ⟨rows0, ⟨⟩⟩, r, e0, ⟨vrows0, _, rfl, hrows0, rfl⟩, h, k⟩ := h
    have w0 := Wo.start e0
    have h : m_first_ring rows0 = some r := h
    unfold m_first_ring at h
    refine ⟨_, PSs.nox (pss_cons (ps_for PassesOwn.never rfl (pi_range1 (by rfl) (fr_range T) (pa_cons (pe_callB (r := rLn K) call_len_seq (by rfl) (fr_len T) (by decide +kernel) (pa_cons (pv 0) pa_nil)) pa_nil)) (pg_name (i := 1) nd rfl (Or.inl rfl)) (pss_cons (ps_for PassesOwn.never rfl (pi_range2 (by rfl) (fr_range T) (pa_cons (pe_op op_add (pv 1) pe_int) (pa_cons (pe_callB (r := rLn K) call_len_seq (by rfl) (fr_len T) (by decide +kernel) (pa_cons (pv 0) pa_nil)) pa_nil))) (pg_name (i := 2) nd rfl (Or.inl rfl)) (pss_cons (ps_if (PW.pt (pw_and (pt_val (pe_ix (r := rIxL K) ix_list (pe_ix (r := rIxL K) ix_list (pv 0) (pv 1) (fun _ _ => rfl)) (pv 2) (fun _ _ => rfl))) (pw_and1 (pt_val (pe_ix (r := rIxL K) ix_list (pe_ix (r := rIxL K) ix_list (pv 0) (pv 2) (fun _ _ => rfl)) (pv 1) (fun _ _ => rfl)))))) (pss_cons (ps_ret (pe_tup (pa_cons (pv 1) (pa_cons (pv 2) pa_nil)))) pss_nil) pss_nil) pss_nil)) pss_nil)) (pss_cons (ps_ret pe_non) pss_nil)), ?_⟩
    obtain ⟨n269, hx270, h⟩ := bindS h
    obtain ⟨xs271, hx272, h⟩ := bindS h
    obtain ⟨t274, hx275, h⟩ := bindS h
    refine x_forR w0 (ea_cons (Sim.E.is (e_cb rc_lenL (ea_cons (e_var (R := (rL (rL rB))) (x := rows0) rfl hrows0) ea_nil)) hx270) ea_nil) rfl hx272 (fun i G' H' σ' => ∃ s276 : Unit, ∃ u277 : Option V, ∃ u278 : Option V, Wo G H [] G' H' [] ∧ Evl.Ex G G' ∧ σ' = [some vrows0, u277, u278] ∧ forL (m_first_ring_b1 rows0) (xs271.drop i) s276 = some t274) ?_ ?_ ?_
    · intro G' H' w' e'
      exact ⟨(), (none), (none), w', e', rfl, hx275⟩
    · rintro i286 x287 σ' G282 H285 hx288 ⟨s276, u277, u278, w283, e284, rfl, hm280⟩
      obtain ⟨q281, hb279, hm280⟩ := forL_at hx288 hm280
      have h289 := Rep.mono _ e284 hrows0
      refine g_name ?_
      unfold m_first_ring_b1 at hb279
      obtain ⟨n290, hx291, hb279⟩ := bindS hb279
      obtain ⟨n292, hx293, hb279⟩ := bindS hb279
      obtain ⟨xs294, hx295, hb279⟩ := bindS hb279
      obtain ⟨t297, hx298, hb279⟩ := bindS hb279
      refine x_forR2 w283 (ea_cons (Sim.E.is (e_op rr_add (e_var (R := rI) (x := x287) rfl rfl) e_int) hx291) (ea_cons (Sim.E.is (e_cb rc_lenL (ea_cons (e_var (R := (rL (rL rB))) (x := rows0) rfl h289) ea_nil)) hx293) ea_nil)) rfl hx295 (fun i G' H' σ' => ∃ s299 : Unit, ∃ u300 : Option V, Wo G H [] G' H' [] ∧ Evl.Ex G282 G' ∧ σ' = [some vrows0, some (V.int x287), u300] ∧ forL (m_first_ring_b2 rows0 x287) (xs294.drop i) s299 = some t297) ?_ ?_ ?_
      · intro G' H' w' e'
        exact ⟨(), (u278), w', e', rfl, hx298⟩
      · rintro i308 x309 σ' G304 H307 hx310 ⟨s299, u300, w305, e306, rfl, hm302⟩
        obtain ⟨q303, hb301, hm302⟩ := forL_at hx310 hm302
        have h311 := Rep.mono _ e306 h289
        refine g_name ?_
        unfold m_first_ring_b2 at hb301
        obtain ⟨b314, hx315, hb301⟩ := bindS hb301
        refine x_if w305 (et_and (et_B (e_op rr_ixL (e_op rr_ixL (e_var (R := (rL (rL rB))) (x := rows0) rfl (Rep.mono _ w305.ex h311)) (e_var (R := rI) (x := x287) rfl rfl)) (e_var (R := rI) (x := x309) rfl rfl))) (et_B (e_op rr_ixL (e_op rr_ixL (e_var (R := (rL (rL rB))) (x := rows0) rfl (Rep.mono _ w305.ex h311)) (e_var (R := rI) (x := x309) rfl rfl)) (e_var (R := rI) (x := x287) rfl rfl)))) (by first | (simp only [be1, bs1, ba1] at hx315 ⊢; exact hx315) | exact hx315) ?_ ?_
        · intro hbb314 H316 w317
          subst hbb314
          have hb301 := bifT hb301
          obtain ⟨a318, hx319, hb301⟩ := bindS hb301
          have hb301 : some (Stp.rt a318) = some q303 := hb301
          cases hb301
          have hm302 : some (Sum.inr a318) = some t297 := hm302
          cases hm302
          have hb279 : some (Stp.rt a318) = some q281 := hb279
          cases hb279
          have hm280 : some (Sum.inr a318) = some t274 := hm280
          cases hm280
          have h : a318 = r := Option.some.inj h
          subst h
          exact x_ret w317 (e_some (e_pair (e_var (R := rI) (x := x287) rfl rfl) (e_var (R := rI) (x := x309) rfl rfl))) hx319 (fun v9 H9 G9 w9 e9 r9 => k v9 H9 G9 w9.upE r9)
        · intro hbb314 H320 w321
          subst hbb314
          have hb301 := bifF hb301
          refine x_next ?_
          refine x_next ?_
          have hb301 : Stp.nx () = q303 := Option.some.inj hb301
          subst hb301
          exact ⟨G304, (), (some (V.int x309)), w321, e306, rfl, hm302⟩
      · rintro σ' G322 H325 ⟨s299, u300, w323, e324, rfl, hm302⟩
        have hm302 := forL_end hm302
        subst hm302
        have hb279 := elimL hb279
        have h327 := Rep.mono _ e324 h289
        refine x_next ?_
        have hb279 : Stp.nx () = q281 := Option.some.inj hb279
        subst hb279
        exact ⟨G322, (), (some (V.int x287)), (u300), w323, (e284.trans e324), rfl, hm280⟩
    · rintro σ' G328 H331 ⟨s276, u277, u278, w329, e330, rfl, hm280⟩
      have hm280 := forL_end hm280
      subst hm280
      have h := elimL h
      have h333 := Rep.mono _ e330 hrows0
      obtain ⟨a334, hx335, h⟩ := bindS h
      have h : a334 = r := Option.some.inj h
      subst h
      exact x_ret w329 (e_none (R := (rP rI rI))) hx335 (fun v9 H9 G9 w9 e9 r9 => k v9 H9 G9 w9.upE r9)
def m_first_lack_b2 (table0 : (List (List (Option Int)))) (x354 : Int) (x376 : Int) (s366 : Unit) : Option (Stp Unit (Option (Int × Int))) :=
  (((atI table0 x354 >>= fun t379 => atI t379 x376) >>= fun t380 => some t380.isNone) >>= fun b381 => bif b381 then (some (some (x354, x376)) >>= fun a385 => some (Stp.rt a385)) else some (Stp.nx ()))
def m_first_lack_b1 (table0 : (List (List (Option Int)))) (x354 : Int) (s343 : Unit) : Option (Stp Unit (Option (Int × Int))) :=
  (some (x354 + (1 : Int)) >>= fun n357 => some (table0.length : Int) >>= fun n359 => rngM n357 n359 >>= fun xs361 => forL (m_first_lack_b2 table0 x354) xs361 () >>= Sum.elim (fun s366 => some (Stp.nx ())) (fun r => some (Stp.rt r)))
def m_first_lack (table0 : (List (List (Option Int)))) : Option (Option (Int × Int)) :=
  (some (table0.length : Int) >>= fun n336 => rngM 0 n336 >>= fun xs338 => forL (m_first_lack_b1 table0) xs338 () >>= Sum.elim (fun s343 => (some (none : (Option (Int × Int))) >>= fun a401 => some a401)) (fun r => some r))
theorem sc_first_lack : FnScope ["table", "first", "second"] ["table"] (defScope s_first_lack) := ⟨rfl, rfl, rfl, by decide +kernel, rfl, by decide +kernel, by decide +kernel⟩
theorem ok_first_lack (T : Tx K mg) : Fk P w K mg base CX0 1 "first_lack" ["table"] (PF (aC (rL (rL (rO rI))) aN) (rO (rP rI rI)) (fun i => m_first_lack i.1)) := by
  obtain ⟨fd, F⟩ := T.def_ 10 rfl
  have nd := sc_first_lack.nd
  refine fk_mk T.toTx (x := "first_lack") (T.glo 20 rfl) F (fun _ _ _ _ _ _ us hl => match us, hl with | [_], _ => rfl) (F.ok sc_first_lack (fun vs H Q E h => ?_) (fun cdv A outer s H vs Q E hr h => ?_))
  · obtain ⟨G, ⟨table0, ⟨⟩⟩, r, e0, ⟨vtable0, _, rfl, htable0, rfl⟩, h, k⟩ := h
    rfl
  · obtain ⟨G, ⟨table0, ⟨⟩⟩, r, e0, ⟨vtable0, _, rfl, htable0, rfl⟩, h, k⟩ := h
    have w0 := Wo.start e0
    have h : m_first_lack table0 = some r := h
    unfold m_first_lack at h
    refine ⟨_, PSs.nox (pss_cons (ps_for PassesOwn.never rfl (pi_range1 (by rfl) (fr_range T) (pa_cons (pe_callB (r := rLn K) call_len_seq (by rfl) (fr_len T) (by decide +kernel) (pa_cons (pv 0) pa_nil)) pa_nil)) (pg_name (i := 1) nd rfl (Or.inl rfl)) (pss_cons (ps_for PassesOwn.never rfl (pi_range2 (by rfl) (fr_range T) (pa_cons (pe_op op_add (pv 1) pe_int) (pa_cons (pe_callB (r := rLn K) call_len_seq (by rfl) (fr_len T) (by decide +kernel) (pa_cons (pv 0) pa_nil)) pa_nil))) (pg_name (i := 2) nd rfl (Or.inl rfl)) (pss_cons (ps_if (pt_cmpR op_isN (pe_ix (r := rIxL K) ix_list (pe_ix (r := rIxL K) ix_list (pv 0) (pv 1) (fun _ _ => rfl)) (pv 2) (fun _ _ => rfl)) pe_non (nomark _)) (pss_cons (ps_ret (pe_tup (pa_cons (pv 1) (pa_cons (pv 2) pa_nil)))) pss_nil) pss_nil) pss_nil)) pss_nil)) (pss_cons (ps_ret pe_non) pss_nil)), ?_⟩
    obtain ⟨n336, hx337, h⟩ := bindS h
    obtain ⟨xs338, hx339, h⟩ := bindS h
    obtain ⟨t341, hx342, h⟩ := bindS h
    refine x_forR w0 (ea_cons (Sim.E.is (e_cb rc_lenL (ea_cons (e_var (R := (rL (rL (rO rI)))) (x := table0) rfl htable0) ea_nil)) hx337) ea_nil) rfl hx339 (fun i G' H' σ' => ∃ s343 : Unit, ∃ u344 : Option V, ∃ u345 : Option V, Wo G H [] G' H' [] ∧ Evl.Ex G G' ∧ σ' = [some vtable0, u344, u345] ∧ forL (m_first_lack_b1 table0) (xs338.drop i) s343 = some t341) ?_ ?_ ?_
    · intro G' H' w' e'
      exact ⟨(), (none), (none), w', e', rfl, hx342⟩
    · rintro i353 x354 σ' G349 H352 hx355 ⟨s343, u344, u345, w350, e351, rfl, hm347⟩
      obtain ⟨q348, hb346, hm347⟩ := forL_at hx355 hm347
      have h356 := Rep.mono _ e351 htable0
      refine g_name ?_
      unfold m_first_lack_b1 at hb346
      obtain ⟨n357, hx358, hb346⟩ := bindS hb346
      obtain ⟨n359, hx360, hb346⟩ := bindS hb346
      obtain ⟨xs361, hx362, hb346⟩ := bindS hb346
      obtain ⟨t364, hx365, hb346⟩ := bindS hb346
      refine x_forR2 w350 (ea_cons (Sim.E.is (e_op rr_add (e_var (R := rI) (x := x354) rfl rfl) e_int) hx358) (ea_cons (Sim.E.is (e_cb rc_lenL (ea_cons (e_var (R := (rL (rL (rO rI)))) (x := table0) rfl h356) ea_nil)) hx360) ea_nil)) rfl hx362 (fun i G' H' σ' => ∃ s366 : Unit, ∃ u367 : Option V, Wo G H [] G' H' [] ∧ Evl.Ex G349 G' ∧ σ' = [some vtable0, some (V.int x354), u367] ∧ forL (m_first_lack_b2 table0 x354) (xs361.drop i) s366 = some t364) ?_ ?_ ?_
      · intro G' H' w' e'
        exact ⟨(), (u345), w', e', rfl, hx365⟩
      · rintro i375 x376 σ' G371 H374 hx377 ⟨s366, u367, w372, e373, rfl, hm369⟩
        obtain ⟨q370, hb368, hm369⟩ := forL_at hx377 hm369
        have h378 := Rep.mono _ e373 h356
        refine g_name ?_
        unfold m_first_lack_b2 at hb368
        obtain ⟨b381, hx382, hb368⟩ := bindS hb368
        refine x_if w372 (et_T (e_op (rr_isN nnI) (e_op rr_ixL (e_op rr_ixL (e_var (R := (rL (rL (rO rI)))) (x := table0) rfl (Rep.mono _ w372.ex h378)) (e_var (R := rI) (x := x354) rfl rfl)) (e_var (R := rI) (x := x376) rfl rfl)) e_non)) (by first | (simp only [be1, bs1, ba1] at hx382 ⊢; exact hx382) | exact hx382) ?_ ?_
        · intro hbb381 H383 w384
          subst hbb381
          have hb368 := bifT hb368
          obtain ⟨a385, hx386, hb368⟩ := bindS hb368
          have hb368 : some (Stp.rt a385) = some q370 := hb368
          cases hb368
          have hm369 : some (Sum.inr a385) = some t364 := hm369
          cases hm369
          have hb346 : some (Stp.rt a385) = some q348 := hb346
          cases hb346
          have hm347 : some (Sum.inr a385) = some t341 := hm347
          cases hm347
          have h : a385 = r := Option.some.inj h
          subst h
          exact x_ret w384 (e_some (e_pair (e_var (R := rI) (x := x354) rfl rfl) (e_var (R := rI) (x := x376) rfl rfl))) hx386 (fun v9 H9 G9 w9 e9 r9 => k v9 H9 G9 w9.upE r9)
        · intro hbb381 H387 w388
          subst hbb381
          have hb368 := bifF hb368
          refine x_next ?_
          refine x_next ?_
          have hb368 : Stp.nx () = q370 := Option.some.inj hb368
          subst hb368
          exact ⟨G371, (), (some (V.int x376)), w388, e373, rfl, hm369⟩
      · rintro σ' G389 H392 ⟨s366, u367, w390, e391, rfl, hm369⟩
        have hm369 := forL_end hm369
        subst hm369
        have hb346 := elimL hb346
        have h394 := Rep.mono _ e391 h356
        refine x_next ?_
        have hb346 : Stp.nx () = q348 := Option.some.inj hb346
        subst hb346
        exact ⟨G389, (), (some (V.int x354)), (u367), w390, (e351.trans e391), rfl, hm347⟩
    · rintro σ' G395 H398 ⟨s343, u344, u345, w396, e397, rfl, hm347⟩
      have hm347 := forL_end hm347
      subst hm347
      have h := elimL h
      have h400 := Rep.mono _ e397 htable0
      obtain ⟨a401, hx402, h⟩ := bindS h
      have h : a401 = r := Option.some.inj h
      subst h
      exact x_ret w396 (e_none (R := (rP rI rI))) hx402 (fun v9 H9 G9 w9 e9 r9 => k v9 H9 G9 w9.upE r9)
def m_longest_b3 (x464 : Int) (rows0 : (List (List Bool))) (x485 : Int) (s475 : (List Int)) : Option (List Int) :=
  (((andO (some (!(x464 == x485))) ((atI rows0 x464 >>= fun t489 => atI t489 x485))) >>= fun b490 => bif b490 then ((atI s475 x485 >>= fun t515 => ((atI s475 x464 >>= fun t514 => some (t514 + (1 : Int))) >>= fun t516 => some (if t516 > t515 then t516 else t515))) >>= fun a517 => some x485 >>= fun i518 => setM s475 i518 a517 >>= fun steps_519 => some steps_519) else some s475) >>= fun s506 => some (s506))
def m_longest_b2 (rows0 : (List (List Bool))) (x464 : Int) (s453 : (List Int)) : Option (List Int) :=
  (some (rows0.length : Int) >>= fun n468 => rngM 0 n468 >>= fun xs470 => forS (m_longest_b3 x464 rows0) xs470 s453 >>= fun s475 => some (s475))
def m_longest_b1 (rows0 : (List (List Bool))) (x438 : (List Bool)) (s426 : (List Int)) : Option (List Int) :=
  (some (rows0.length : Int) >>= fun n446 => rngM 0 n446 >>= fun xs448 => forS (m_longest_b2 rows0) xs448 s426 >>= fun s453 => some (s453))
def m_longest (rows0 : (List (List Bool))) : Option Int :=
  (mapS (fun x406 => some (0 : Int)) rows0 >>= fun steps_412 => (some rows0 >>= fun xs421 => forS (m_longest_b1 rows0) xs421 steps_412 >>= fun s426 => (maxL s426 >>= fun a561 => some a561)))
theorem sc_longest : FnScope ["rows", "steps", "_", "low", "high"] ["rows"] (defScope s_longest) := ⟨rfl, rfl, rfl, by decide +kernel, rfl, by decide +kernel, by decide +kernel⟩
theorem ok_longest (T : Tx K mg) : Fk P w K mg base CX0 1 "longest" ["rows"] (PF (aC (rL (rL rB)) aN) rI (fun i => m_longest i.1)) := by
  obtain ⟨fd, F⟩ := T.def_ 11 rfl
  have nd := sc_longest.nd
  refine fk_mk T.toTx (x := "longest") (T.glo 21 rfl) F (fun _ _ _ _ _ _ us hl => match us, hl with | [_], _ => rfl) (F.ok sc_longest (fun vs H Q E h => ?_) (fun cdv A outer s H vs Q E hr h => ?_))
  · obtain ⟨G, ⟨rows0, ⟨⟩⟩, r, e0, ⟨vrows0, _, rfl, hrows0, rfl⟩, h, k⟩ := h
    rfl
  · obtain ⟨G, ⟨rows0, ⟨⟩⟩, r, e0, ⟨vrows0, _, rfl, hrows0, rfl⟩, h, k⟩ := h
    have w0 := Wo.start e0
    have h : m_longest rows0 = some r := h
    unfold m_longest at h
    refine ⟨_, PSs.nox (pss_cons (ps_setLc (i := 1) (own := [("_", 2)]) (by rfl) nd rfl rfl (sw_true rfl rfl rfl (by decide +kernel)) (show L2.PI _ _ _ (iList K _) from pi_list (pv 0)) (blkOk_by (by kernel_rfl)) (fun _ _ _ _ _ => pg_name (i := 2) nd rfl (by first | exact Or.inl rfl | exact Or.inr rfl)) (fun _ _ _ _ _ => pts_nil) (fun _ _ _ _ _ => pe_int)) (pss_cons (ps_for PassesOwn.never rfl (pi_list (pv 0)) (pg_name (i := 2) nd rfl (Or.inl rfl)) (pss_cons (ps_for PassesOwn.never rfl (pi_range1 (by rfl) (fr_range T) (pa_cons (pe_callB (r := rLn K) call_len_seq (by rfl) (fr_len T) (by decide +kernel) (pa_cons (pv 0) pa_nil)) pa_nil)) (pg_name (i := 3) nd rfl (Or.inl rfl)) (pss_cons (ps_for PassesOwn.never rfl (pi_range1 (by rfl) (fr_range T) (pa_cons (pe_callB (r := rLn K) call_len_seq (by rfl) (fr_len T) (by decide +kernel) (pa_cons (pv 0) pa_nil)) pa_nil)) (pg_name (i := 4) nd rfl (Or.inl rfl)) (Evl.pss_cut (ps_if (PW.pt (pw_and (pt_cmpR op_ne (pv 3) (pv 4) (nomark _)) (pw_and1 (pt_val (pe_ix (r := rIxL K) ix_list (pe_ix (r := rIxL K) ix_list (pv 0) (pv 3) (fun _ _ => rfl)) (pv 4) (fun _ _ => rfl)))))) (pss_cons (ps_asg (pe_callB (call_max2 rfl) (by rfl) (fr_max T) (by decide +kernel) (pa_cons (pe_ix (r := rIxL K) ix_list (pv 1) (pv 4) (fun _ _ => rfl)) (pa_cons (pe_op op_add (pe_ix (r := rIxL K) ix_list (pv 1) (pv 3) (fun _ _ => rfl)) pe_int) pa_nil))) (pg_sub (pv 1) (pv 4) set_list)) pss_nil) pss_nil) pss_nil)) pss_nil)) pss_nil)) (pss_cons (ps_ret (pe_callB (r := rMax K) (cr_max rfl) (by rfl) (fr_max T) (by decide +kernel) (pa_cons (pv 1) pa_nil))) pss_nil))), ?_⟩
    obtain ⟨steps_412, hx413, h⟩ := bindS h
    refine x_setL w0 (el_map (el_lcL (j := 2) (e_var (R := (rL (rL rB))) (x := rows0) rfl hrows0) (fun _ => rfl) (fun _ _ _ _ _ _ _ _ => et_yes) (fun x406 v409 G407 W408 eG403 eW404 eX405 h410 => e_int))) hx413 ?_
    intro p416 H414 G417 n418 w415 e419
    have h420 := Rep.mono _ e419 hrows0
    obtain ⟨xs421, hx422, h⟩ := bindS h
    obtain ⟨t424, hx425, h⟩ := bindS h
    refine x_forL w415 (e_var (R := (rL (rL rB))) (x := rows0) rfl h420) hx422 (fun i G' H' σ' => ∃ s426 : (List Int), ∃ u427 : Option V, ∃ u428 : Option V, ∃ u429 : Option V, Wo G H [] G' H' [(p416, cL rI s426)] ∧ Evl.Ex G417 G' ∧ σ' = [some vrows0, some (V.ref p416), u427, u429, u428] ∧ forS (m_longest_b1 rows0) (xs421.drop i) s426 = some t424) (fun _ _ _ _ ⟨_, _, _, _, w, _⟩ => w.ex) ?_ ?_ ?_
    · intro G' H' w' e'
      exact ⟨steps_412, (none), (none), (none), w', e', rfl, hx425⟩
    · rintro G440 e441 i437 x438 v442 σ' G433 H436 hx439 e444 ⟨s426, u427, u428, u429, w434, e435, rfl, hm431⟩ r443
      obtain ⟨q432, hb430, hm431⟩ := forS_at hx439 hm431
      have h445 := Rep.mono _ e435 h420
      refine g_name ?_
      unfold m_longest_b1 at hb430
      obtain ⟨n446, hx447, hb430⟩ := bindS hb430
      obtain ⟨xs448, hx449, hb430⟩ := bindS hb430
      obtain ⟨t451, hx452, hb430⟩ := bindS hb430
      refine x_forR w434 (ea_cons (Sim.E.is (e_cb rc_lenL (ea_cons (e_var (R := (rL (rL rB))) (x := rows0) rfl h445) ea_nil)) hx447) ea_nil) rfl hx449 (fun i G' H' σ' => ∃ s453 : (List Int), ∃ u454 : Option V, ∃ u455 : Option V, Wo G H [] G' H' [(p416, cL rI s453)] ∧ Evl.Ex G433 G' ∧ σ' = [some vrows0, some (V.ref p416), some v442, u455, u454] ∧ forS (m_longest_b2 rows0) (xs448.drop i) s453 = some t451) ?_ ?_ ?_
      · intro G' H' w' e'
        exact ⟨s426, (u428), (u429), w', e', rfl, hx452⟩
      · rintro i463 x464 σ' G459 H462 hx465 ⟨s453, u454, u455, w460, e461, rfl, hm457⟩
        obtain ⟨q458, hb456, hm457⟩ := forS_at hx465 hm457
        have h466 := Rep.mono _ e461 h445
        have h467 := Rep.mono _ e461 r443
        refine g_name ?_
        unfold m_longest_b2 at hb456
        obtain ⟨n468, hx469, hb456⟩ := bindS hb456
        obtain ⟨xs470, hx471, hb456⟩ := bindS hb456
        obtain ⟨t473, hx474, hb456⟩ := bindS hb456
        refine x_forR w460 (ea_cons (Sim.E.is (e_cb rc_lenL (ea_cons (e_var (R := (rL (rL rB))) (x := rows0) rfl h466) ea_nil)) hx469) ea_nil) rfl hx471 (fun i G' H' σ' => ∃ s475 : (List Int), ∃ u476 : Option V, Wo G H [] G' H' [(p416, cL rI s475)] ∧ Evl.Ex G459 G' ∧ σ' = [some vrows0, some (V.ref p416), some v442, some (V.int x464), u476] ∧ forS (m_longest_b3 x464 rows0) (xs470.drop i) s475 = some t473) ?_ ?_ ?_
        · intro G' H' w' e'
          exact ⟨s453, (u454), w', e', rfl, hx474⟩
        · rintro i484 x485 σ' G480 H483 hx486 ⟨s475, u476, w481, e482, rfl, hm478⟩
          obtain ⟨q479, hb477, hm478⟩ := forS_at hx486 hm478
          have h487 := Rep.mono _ e482 h466
          have h488 := Rep.mono _ e482 h467
          refine g_name ?_
          unfold m_longest_b3 at hb477
          obtain ⟨s506, hx507, hb477⟩ := bindS hb477
          refine o_cut (fun σ' H' => ∃ G' : Hp, Wo G H [] G' H' [(p416, cL rI s506)] ∧ Evl.Ex G480 G' ∧ σ' = [some vrows0, some (V.ref p416), some v442, some (V.int x464), some (V.int x485)]) ?_ ?_
          · obtain ⟨b490, hx511, hx507⟩ := bindS hx507
            refine x_if w481 (et_and (et_T (e_op rr_neI (e_var (R := rI) (x := x464) rfl rfl) (e_var (R := rI) (x := x485) rfl rfl))) (et_B (e_op rr_ixL (e_op rr_ixL (e_var (R := (rL (rL rB))) (x := rows0) rfl (Rep.mono _ w481.ex h487)) (e_var (R := rI) (x := x464) rfl rfl)) (e_var (R := rI) (x := x485) rfl rfl)))) (by first | (simp only [be1, bs1, ba1] at hx511 ⊢; exact hx511) | exact hx511) ?_ ?_
            · intro hbb490 H512 w513
              subst hbb490
              have hx507 := bifT hx507
              obtain ⟨a517, hx520, hx507⟩ := bindS hx507
              obtain ⟨i518, hx521, hx507⟩ := bindS hx507
              obtain ⟨steps_519, hx522, hx507⟩ := bindS hx507
              refine x_setIx (j := 0) w513 rfl rfl (Sim.E.s scI (e_cb rc_max2 (ea_cons (e_op rr_ixL (e_var (R := (rL rI)) (x := s475) rfl (w513.rlAt (i := 0) rfl)) (e_var (R := rI) (x := x485) rfl rfl)) (ea_cons (e_op rr_add (e_op rr_ixL (e_var (R := (rL rI)) (x := s475) rfl (w513.rlAt (i := 0) rfl)) (e_var (R := rI) (x := x464) rfl rfl)) e_int) ea_nil)))) (by first | (simp only [be1, bs1, ba1] at hx520 ⊢; exact hx520) | exact hx520) (e_var (R := rI) (x := x485) rfl rfl) (by first | (simp only [be1, bs1, ba1] at hx521 ⊢; exact hx521) | exact hx521) hx522 ?_
              intro H523 G524 w525 e526
              have h527 := Rep.mono _ e526 h487
              have h528 := Rep.mono _ e526 h488
              have w525 : Wo G H [] G524 H523 [(p416, cL rI steps_519)] := w525
              refine x_next ?_
              have hx507 : steps_519 = s506 := Option.some.inj hx507
              subst hx507
              exact ⟨G524, w525, e526, rfl⟩
            · intro hbb490 H529 w530
              subst hbb490
              have hx507 := bifF hx507
              refine x_next ?_
              have hx507 : s475 = s506 := Option.some.inj hx507
              subst hx507
              exact ⟨G480, w530, (Evl.Ex.refl _), rfl⟩
          · rintro σ' H534 ⟨G531, w509, e508, rfl⟩
            have h532 := Rep.mono _ e508 h487
            have h533 := Rep.mono _ e508 h488
            refine x_next ?_
            have hb477 : s506 = q479 := Option.some.inj hb477
            subst hb477
            exact ⟨G531, s506, (some (V.int x485)), w509, (e482.trans e508), rfl, hm478⟩
        · rintro σ' G535 H538 ⟨s475, u476, w536, e537, rfl, hm478⟩
          have hm478 := forS_end hm478
          subst hm478
          have h540 := Rep.mono _ e537 h466
          have h541 := Rep.mono _ e537 h467
          refine x_next ?_
          have hb456 : s475 = q458 := Option.some.inj hb456
          subst hb456
          exact ⟨G535, s475, (u476), (some (V.int x464)), w536, (e461.trans e537), rfl, hm457⟩
      · rintro σ' G542 H545 ⟨s453, u454, u455, w543, e544, rfl, hm457⟩
        have hm457 := forS_end hm457
        subst hm457
        have h547 := Rep.mono _ e544 h445
        have h548 := Rep.mono _ e544 r443
        refine x_next ?_
        have hb430 : s453 = q432 := Option.some.inj hb430
        subst hb430
        exact ⟨G542, (e444.trans e544), s453, (some v442), (u454), (u455), w543, (e435.trans e544), rfl, hm431⟩
    · rintro σ' G549 H552 e553 ⟨s426, u427, u428, u429, w550, e551, rfl, hm431⟩
      have hm431 := forS_end hm431
      subst hm431
      have h555 := Rep.mono _ e551 h420
      obtain ⟨G556, w557, e558, h559⟩ := w550.freezeAt (i := 0) rfl n418
      have h560 := Rep.mono _ e558 h555
      have w557 : Wo G H [] G556 H552 [] := w557
      obtain ⟨a561, hx562, h⟩ := bindS h
      have h : a561 = r := Option.some.inj h
      subst h
      exact x_ret w557 (e_cb rc_maxL (ea_cons (e_var (R := (rL rI)) (x := s426) rfl h559) ea_nil)) hx562 (fun v9 H9 G9 w9 e9 r9 => k v9 H9 G9 w9.upE r9)
def m_Order___init___b2 (size0 : Int) (x613 : Int) (s603 : Unit) : Option Unit :=
  (some ((decide (x613 < (0 : Int))) || (decide (size0 ≤ x613))) >>= fun b621 => bif b621 then none else some (()))
def m_Order___init___b1 (size0 : Int) (x586 : (Int × Int)) (s574 : Unit) : Option Unit :=
  (some ([x586.1, x586.2]) >>= fun xs598 => forS (m_Order___init___b2 size0) xs598 () >>= fun s603 => some (()))
def m_Order___init__ (size0 : Int) (pairs0 : (List (Int × Int))) : Option m_Order :=
  (some ((decide (size0 < (1 : Int))) || (decide ((12 : Int) < size0))) >>= fun b563 => bif b563 then none else (some pairs0 >>= fun xs569 => forS (m_Order___init___b1 size0) xs569 () >>= fun s574 => (m_closure size0 pairs0 >>= fun above_641 => (m_first_ring above_641 >>= fun bad_650 => (some bad_650.isSome >>= fun b660 => bif b660 then none else (m_bounds_table above_641 >>= fun joins_666 => (m_first_lack joins_666 >>= fun bad_677 => (some bad_677.isSome >>= fun b689 => bif b689 then none else ((m_turned above_641 >>= fun t695 => m_bounds_table t695) >>= fun meets_696 => (m_first_lack meets_696 >>= fun bad_708 => (some bad_708.isSome >>= fun b721 => bif b721 then none else (some above_641 >>= fun f727 => (some joins_666 >>= fun f738 => (some meets_696 >>= fun f749 => (rngM 0 size0 >>= fun f760 => (m_longest above_641 >>= fun f771 => some (m_Order.mk f727 f738 f749 f760 f771)))))))))))))))))
theorem sc_Order___init__ : FnScope ["self", "size", "pairs", "above", "bad", "joins", "meets", "low", "high", "value"] ["self", "size", "pairs"] (defScope s_Order___init__) := ⟨rfl, rfl, rfl, by decide +kernel, rfl, by decide +kernel, by decide +kernel⟩
theorem ok_Order___init__ (T : Tx K mg) : Fm P w K mg base CX0 3 "Order" "__init__" ["self", "size", "pairs"] (Sim.PI (He.ga K "Order") (aC rI (aC (rL (rP rI rI)) aN)) ns_Order (fl_Order K) (fun i => m_Order___init__ i.1 i.2.1)) := by
  obtain ⟨fd_closure, G_closure, b_closure, k_closure, g_closure⟩ := ok_closure (w := w) (base := base) T
  obtain ⟨fd_first_ring, G_first_ring, b_first_ring, k_first_ring, g_first_ring⟩ := ok_first_ring (w := w) (base := base) T
  obtain ⟨fd_bounds_table, G_bounds_table, b_bounds_table, k_bounds_table, g_bounds_table⟩ := ok_bounds_table (w := w) (base := base) T
  obtain ⟨fd_first_lack, G_first_lack, b_first_lack, k_first_lack, g_first_lack⟩ := ok_first_lack (w := w) (base := base) T
  obtain ⟨fd_turned, G_turned, b_turned, k_turned, g_turned⟩ := ok_turned (w := w) (base := base) T
  obtain ⟨fd_longest, G_longest, b_longest, k_longest, g_longest⟩ := ok_longest (w := w) (base := base) T
  obtain ⟨u_Order_MOST, c_Order_MOST⟩ := T.con 0 (C := "Order") (f := "MOST") (v := .int 12) rfl
  obtain ⟨fd, F⟩ := T.def_ 13 rfl
  have nd := sc_Order___init__.nd
  refine fm_mk F (fun _ _ _ _ _ _ us hl => match us, hl with | [_, _, _], _ => rfl) (F.ok sc_Order___init__ (fun vs H Q E h => ?_) (fun cdv A outer s H vs Q E hr h => ?_))
  · obtain ⟨G, l, _, ⟨size0, pairs0, ⟨⟩⟩, r, rfl, wd, ⟨vsize0, _, rfl, hsize0, vpairs0, _, rfl, hpairs0, rfl⟩, h, k⟩ := h
    rfl
  · obtain ⟨G, l, _, ⟨size0, pairs0, ⟨⟩⟩, r, rfl, wd, ⟨vsize0, _, rfl, hsize0, vpairs0, _, rfl, hpairs0, rfl⟩, h, k⟩ := h
    cases hsize0
    have w0 : Wo G H [l] G H _ := Wo.startC wd
    have h : m_Order___init__ size0 pairs0 = some r := h
    unfold m_Order___init__ at h
    refine ⟨_, PSs.nox (pss_cons (ps_if (PW.pt (pw_or (pt_cmpR op_lt (pv 1) pe_int (nomark _)) (pw_or1 (pt_cmpR op_gt (pv 1) (pe_con (pv 0) rfl) (nomark _))))) (pss_cons ps_never pss_nil) pss_nil) (pss_cons (ps_for PassesOwn.never rfl (pi_list (pv 2)) (pg_tup (by rfl) (pgs_cons (pg_name (i := 7) nd rfl (by first | exact Or.inl rfl | exact Or.inr rfl)) (pgs_cons (pg_name (i := 8) nd rfl (by first | exact Or.inl rfl | exact Or.inr rfl)) pgs_nil))) (pss_cons (ps_for PassesOwn.never rfl (pi_tup (pe_tup (pa_cons (pv 7) (pa_cons (pv 8) pa_nil)))) (pg_name (i := 9) nd rfl (Or.inl rfl)) (pss_cons (ps_if (PW.pt (pw_or (pt_cmpR op_lt (pv 9) pe_int (nomark _)) (pw_or1 (pt_cmpR op_ge (pv 9) (pv 1) (nomark _))))) (pss_cons ps_never pss_nil) pss_nil) pss_nil)) pss_nil)) (pss_cons (ps_set (i := 3) nd rfl (Or.inl rfl) (pe_call G_closure (hr.mono (by decide)) rfl g_closure k_closure b_closure .nil pass0 (pa_cons (pv 1) (pa_cons (pv 2) pa_nil)))) (pss_cons (ps_set (i := 4) nd rfl (Or.inl rfl) (pe_call G_first_ring (hr.mono (by decide)) rfl g_first_ring k_first_ring b_first_ring .nil pass0 (pa_cons (pv 3) pa_nil))) (pss_cons (ps_if (pt_cmpR op_notN (pv 4) pe_non (nomark _)) (pss_cons ps_never pss_nil) pss_nil) (pss_cons (ps_set (i := 5) nd rfl (Or.inl rfl) (pe_call G_bounds_table (hr.mono (by decide)) rfl g_bounds_table k_bounds_table b_bounds_table .nil pass0 (pa_cons (pv 3) pa_nil))) (pss_cons (ps_set (i := 4) nd rfl (Or.inl rfl) (pe_call G_first_lack (hr.mono (by decide)) rfl g_first_lack k_first_lack b_first_lack .nil pass0 (pa_cons (pv 5) pa_nil))) (pss_cons (ps_if (pt_cmpR op_notN (pv 4) pe_non (nomark _)) (pss_cons ps_never pss_nil) pss_nil) (pss_cons (ps_set (i := 6) nd rfl (Or.inl rfl) (pe_call G_bounds_table (hr.mono (by decide)) rfl g_bounds_table k_bounds_table b_bounds_table .nil pass0 (pa_cons (pe_call G_turned (hr.mono (by decide)) rfl g_turned k_turned b_turned .nil pass0 (pa_cons (pv 3) pa_nil)) pa_nil))) (pss_cons (ps_set (i := 4) nd rfl (Or.inl rfl) (pe_call G_first_lack (hr.mono (by decide)) rfl g_first_lack k_first_lack b_first_lack .nil pass0 (pa_cons (pv 6) pa_nil))) (pss_cons (ps_if (pt_cmpR op_notN (pv 4) pe_non (nomark _)) (pss_cons ps_never pss_nil) pss_nil) (pss_cons (ps_fld (pv 0) (pv 3) rfl) (pss_cons (ps_fld (pv 0) (pv 5) rfl) (pss_cons (ps_fld (pv 0) (pv 6) rfl) (pss_cons (ps_fld (pv 0) (pe_listRg (by rfl) (by rfl) (fr_list T) (prg_1 (by rfl) (fr_range T) (pv 1))) rfl) (pss_cons (ps_fld (pv 0) (pe_call G_longest (hr.mono (by decide)) rfl g_longest k_longest b_longest .nil pass0 (pa_cons (pv 3) pa_nil)) rfl) pss_nil)))))))))))))))), ?_⟩
    obtain ⟨b563, hx564, h⟩ := bindS h
    refine x_if w0 (et_orP (et_T (e_op rr_lt (e_var (R := rI) (x := size0) rfl rfl) e_int)) (et_T (e_op rr_gt (e_var (R := rI) (x := size0) rfl rfl) (e_conC (S := rI) (x := (12 : Int)) (j := 0) w0 rfl rfl (T.cls 60 rfl) c_Order_MOST (by decide +kernel) (fun _ => rfl))))) hx564 ?_ ?_
    · intro hbb563 H565 w566
      subst hbb563
      have h := bifT h
      cases (show none = some _ from h)
    · intro hbb563 H567 w568
      subst hbb563
      have h := bifF h
      refine x_next ?_
      obtain ⟨xs569, hx570, h⟩ := bindS h
      obtain ⟨t572, hx573, h⟩ := bindS h
      refine x_forL w568 (e_var (R := (rL (rP rI rI))) (x := pairs0) rfl hpairs0) hx570 (fun i G' H' σ' => ∃ s574 : Unit, ∃ u575 : Option V, ∃ u576 : Option V, ∃ u577 : Option V, Wo G H [l] G' H' [(l, cI (He.ga K "Order") [] [])] ∧ Evl.Ex G G' ∧ σ' = [some (V.ref l), some (V.int size0), some vpairs0, none, none, none, none, u576, u575, u577] ∧ forS (m_Order___init___b1 size0) (xs569.drop i) s574 = some t572) (fun _ _ _ _ ⟨_, _, _, _, w, _⟩ => w.ex) ?_ ?_ ?_
      · intro G' H' w' e'
        exact ⟨(), (none), (none), (none), w', e', rfl, hx573⟩
      · rintro G588 e589 i585 x586 v590 σ' G581 H584 hx587 e592 ⟨s574, u575, u576, u577, w582, e583, rfl, hm579⟩ r591
        obtain ⟨q580, hb578, hm579⟩ := forS_at hx587 hm579
        have h593 := Rep.mono _ e583 hpairs0
        refine g_pair (i := 7) (j := 8) r591 w582.ex ?_
        intro v594 v595 r596 r597
        cases r596
        cases r597
        unfold m_Order___init___b1 at hb578
        obtain ⟨xs598, hx599, hb578⟩ := bindS hb578
        obtain ⟨t601, hx602, hb578⟩ := bindS hb578
        refine x_forT w582 (e_tupH (eal_cons (e_var (R := rI) (x := x586.1) rfl rfl) (eal_cons (e_var (R := rI) (x := x586.2) rfl rfl) eal_nil))) hx599 (fun i G' H' σ' => ∃ s603 : Unit, ∃ u604 : Option V, Wo G H [l] G' H' [(l, cI (He.ga K "Order") [] [])] ∧ Evl.Ex G581 G' ∧ σ' = [some (V.ref l), some (V.int size0), some vpairs0, none, none, none, none, some (V.int x586.1), some (V.int x586.2), u604] ∧ forS (m_Order___init___b2 size0) (xs598.drop i) s603 = some t601) (fun _ _ _ _ ⟨_, _, w, _⟩ => w.ex) ?_ ?_ ?_
        · intro G' H' w' e'
          exact ⟨(), (u577), w', e', rfl, hx602⟩
        · rintro G615 e616 i612 x613 v617 σ' G608 H611 hx614 e619 ⟨s603, u604, w609, e610, rfl, hm606⟩ r618
          obtain ⟨q607, hb605, hm606⟩ := forS_at hx614 hm606
          have h620 := Rep.mono _ e610 h593
          refine g_name ?_
          cases r618
          unfold m_Order___init___b2 at hb605
          obtain ⟨b621, hx622, hb605⟩ := bindS hb605
          refine x_if w609 (et_orP (et_T (e_op rr_lt (e_var (R := rI) (x := x613) rfl rfl) e_int)) (et_T (e_op rr_ge (e_var (R := rI) (x := x613) rfl rfl) (e_var (R := rI) (x := size0) rfl rfl)))) hx622 ?_ ?_
          · intro hbb621 H623 w624
            subst hbb621
            have hb605 := bifT hb605
            cases (show none = some _ from hb605)
          · intro hbb621 H625 w626
            subst hbb621
            have hb605 := bifF hb605
            refine x_next ?_
            refine x_next ?_
            have hb605 : () = q607 := Option.some.inj hb605
            subst hb605
            exact ⟨G608, (e619.trans (Evl.Ex.refl _)), (), (some (V.int x613)), w626, e610, rfl, hm606⟩
        · rintro σ' G627 H630 e631 ⟨s603, u604, w628, e629, rfl, hm606⟩
          have hm606 := forS_end hm606
          subst hm606
          have h633 := Rep.mono _ e629 h593
          refine x_next ?_
          have hb578 : () = q580 := Option.some.inj hb578
          subst hb578
          exact ⟨G627, (e592.trans e629), (), (some (V.int x586.2)), (some (V.int x586.1)), (u604), w628, (e583.trans e629), rfl, hm579⟩
      · rintro σ' G634 H637 e638 ⟨s574, u575, u576, u577, w635, e636, rfl, hm579⟩
        have hm579 := forS_end hm579
        subst hm579
        have h640 := Rep.mono _ e636 hpairs0
        obtain ⟨above_641, hx642, h⟩ := bindS h
        refine x_set w635 (e_call (ea_cons (e_var (R := rI) (x := size0) rfl rfl) (ea_cons (e_var (R := (rL (rP rI rI))) (x := pairs0) rfl h640) ea_nil))) (by first | (simp only [be1, bs1, ba1] at hx642 ⊢; exact hx642) | exact hx642) ?_
        intro v645 H643 G646 w644 e647 h648
        have h649 := Rep.mono _ e647 h640
        obtain ⟨bad_650, hx651, h⟩ := bindS h
        refine x_set w644 (e_call (ea_cons (e_var (R := (rL (rL rB))) (x := above_641) rfl h648) ea_nil)) (by first | (simp only [be1, bs1, ba1] at hx651 ⊢; exact hx651) | exact hx651) ?_
        intro v654 H652 G655 w653 e656 h657
        have h658 := Rep.mono _ e656 h649
        have h659 := Rep.mono _ e656 h648
        obtain ⟨b660, hx661, h⟩ := bindS h
        refine x_if w653 (et_T (e_op (rr_notN nnP) (e_var (R := (rO (rP rI rI))) (x := bad_650) rfl (Rep.mono _ w653.ex h657)) e_non)) hx661 ?_ ?_
        · intro hbb660 H662 w663
          subst hbb660
          have h := bifT h
          cases (show none = some _ from h)
        · intro hbb660 H664 w665
          subst hbb660
          have h := bifF h
          refine x_next ?_
          obtain ⟨joins_666, hx667, h⟩ := bindS h
          refine x_set w665 (e_call (ea_cons (e_var (R := (rL (rL rB))) (x := above_641) rfl h659) ea_nil)) (by first | (simp only [be1, bs1, ba1] at hx667 ⊢; exact hx667) | exact hx667) ?_
          intro v670 H668 G671 w669 e672 h673
          have h674 := Rep.mono _ e672 h658
          have h675 := Rep.mono _ e672 h659
          have h676 := Rep.mono _ e672 h657
          obtain ⟨bad_677, hx678, h⟩ := bindS h
          refine x_set w669 (e_call (ea_cons (e_var (R := (rL (rL (rO rI)))) (x := joins_666) rfl h673) ea_nil)) (by first | (simp only [be1, bs1, ba1] at hx678 ⊢; exact hx678) | exact hx678) ?_
          intro v681 H679 G682 w680 e683 h684
          have h685 := Rep.mono _ e683 h674
          have h686 := Rep.mono _ e683 h675
          have h687 := Rep.mono _ e683 h676
          have h688 := Rep.mono _ e683 h673
          obtain ⟨b689, hx690, h⟩ := bindS h
          refine x_if w680 (et_T (e_op (rr_notN nnP) (e_var (R := (rO (rP rI rI))) (x := bad_677) rfl (Rep.mono _ w680.ex h684)) e_non)) hx690 ?_ ?_
          · intro hbb689 H691 w692
            subst hbb689
            have h := bifT h
            cases (show none = some _ from h)
          · intro hbb689 H693 w694
            subst hbb689
            have h := bifF h
            refine x_next ?_
            obtain ⟨meets_696, hx697, h⟩ := bindS h
            refine x_set w694 (e_call (ea_cons (e_call (ea_cons (e_var (R := (rL (rL rB))) (x := above_641) rfl h686) ea_nil)) ea_nil)) (by first | (simp only [be1, bs1, ba1] at hx697 ⊢; exact hx697) | exact hx697) ?_
            intro v700 H698 G701 w699 e702 h703
            have h704 := Rep.mono _ e702 h685
            have h705 := Rep.mono _ e702 h686
            have h706 := Rep.mono _ e702 h684
            have h707 := Rep.mono _ e702 h688
            obtain ⟨bad_708, hx709, h⟩ := bindS h
            refine x_set w699 (e_call (ea_cons (e_var (R := (rL (rL (rO rI)))) (x := meets_696) rfl h703) ea_nil)) (by first | (simp only [be1, bs1, ba1] at hx709 ⊢; exact hx709) | exact hx709) ?_
            intro v712 H710 G713 w711 e714 h715
            have h716 := Rep.mono _ e714 h704
            have h717 := Rep.mono _ e714 h705
            have h718 := Rep.mono _ e714 h706
            have h719 := Rep.mono _ e714 h707
            have h720 := Rep.mono _ e714 h703
            obtain ⟨b721, hx722, h⟩ := bindS h
            refine x_if w711 (et_T (e_op (rr_notN nnP) (e_var (R := (rO (rP rI rI))) (x := bad_708) rfl (Rep.mono _ w711.ex h715)) e_non)) hx722 ?_ ?_
            · intro hbb721 H723 w724
              subst hbb721
              have h := bifT h
              cases (show none = some _ from h)
            · intro hbb721 H725 w726
              subst hbb721
              have h := bifF h
              refine x_next ?_
              obtain ⟨f727, hx728, h⟩ := bindS h
              refine x_fldN (j := 0) w726 rfl rfl (e_var (R := (rL (rL rB))) (x := above_641) rfl h717) hx728 (T.cls 60 rfl) (T.noat 61 rfl) (by decide +kernel) (by decide) ?_
              intro H729 G730 w731 e732
              have h733 := Rep.mono _ e732 h716
              have h734 := Rep.mono _ e732 h717
              have h735 := Rep.mono _ e732 h715
              have h736 := Rep.mono _ e732 h719
              have h737 := Rep.mono _ e732 h720
              have w731 : Wo G H [l] G730 H729 [(l, cI (He.ga K "Order") ["_above"] [pd (rL (rL rB)) f727])] := w731
              obtain ⟨f738, hx739, h⟩ := bindS h
              refine x_fldN (j := 0) w731 rfl rfl (e_var (R := (rL (rL (rO rI)))) (x := joins_666) rfl h736) hx739 (T.cls 60 rfl) (T.noat 62 rfl) (by decide +kernel) (by decide) ?_
              intro H740 G741 w742 e743
              have h744 := Rep.mono _ e743 h733
              have h745 := Rep.mono _ e743 h734
              have h746 := Rep.mono _ e743 h735
              have h747 := Rep.mono _ e743 h736
              have h748 := Rep.mono _ e743 h737
              have w742 : Wo G H [l] G741 H740 [(l, cI (He.ga K "Order") ["_above", "_joins"] [pd (rL (rL rB)) f727, pd (rL (rL (rO rI))) f738])] := w742
              obtain ⟨f749, hx750, h⟩ := bindS h
              refine x_fldN (j := 0) w742 rfl rfl (e_var (R := (rL (rL (rO rI)))) (x := meets_696) rfl h748) hx750 (T.cls 60 rfl) (T.noat 63 rfl) (by decide +kernel) (by decide) ?_
              intro H751 G752 w753 e754
              have h755 := Rep.mono _ e754 h744
              have h756 := Rep.mono _ e754 h745
              have h757 := Rep.mono _ e754 h746
              have h758 := Rep.mono _ e754 h747
              have h759 := Rep.mono _ e754 h748
              have w753 : Wo G H [l] G752 H751 [(l, cI (He.ga K "Order") ["_above", "_joins", "_meets"] [pd (rL (rL rB)) f727, pd (rL (rL (rO rI))) f738, pd (rL (rL (rO rI))) f749])] := w753
              obtain ⟨f760, hx761, h⟩ := bindS h
              refine x_fldN (j := 0) w753 rfl rfl (EL.e (el_listRg (e_var (R := rI) (x := size0) rfl rfl))) hx761 (T.cls 60 rfl) (T.noat 64 rfl) (by decide +kernel) (by decide) ?_
              intro H762 G763 w764 e765
              have h766 := Rep.mono _ e765 h755
              have h767 := Rep.mono _ e765 h756
              have h768 := Rep.mono _ e765 h757
              have h769 := Rep.mono _ e765 h758
              have h770 := Rep.mono _ e765 h759
              have w764 : Wo G H [l] G763 H762 [(l, cI (He.ga K "Order") ["_above", "_joins", "_meets", "_members"] [pd (rL (rL rB)) f727, pd (rL (rL (rO rI))) f738, pd (rL (rL (rO rI))) f749, pd (rL rI) f760])] := w764
              obtain ⟨f771, hx772, h⟩ := bindS h
              refine x_fldN (j := 0) w764 rfl rfl (e_call (ea_cons (e_var (R := (rL (rL rB))) (x := above_641) rfl h767) ea_nil)) (by first | (simp only [be1, bs1, ba1] at hx772 ⊢; exact hx772) | exact hx772) (T.cls 60 rfl) (T.noat 65 rfl) (by decide +kernel) (by decide) ?_
              intro H773 G774 w775 e776
              have h777 := Rep.mono _ e776 h766
              have h778 := Rep.mono _ e776 h767
              have h779 := Rep.mono _ e776 h768
              have h780 := Rep.mono _ e776 h769
              have h781 := Rep.mono _ e776 h770
              have w775 : Wo G H [l] G774 H773 [(l, cI (He.ga K "Order") ["_above", "_joins", "_meets", "_members", "_height"] [pd (rL (rL rB)) f727, pd (rL (rL (rO rI))) f738, pd (rL (rL (rO rI))) f749, pd (rL rI) f760, pd rI f771])] := w775
              refine x_next ?_
              have h : (m_Order.mk f727 f738 f749 f760 f771) = r := Option.some.inj h
              subst h
              exact k _ _ w775.f (w775.sub1 (i := 0) rfl)
def m_Order__require_b1 (self0 : m_Order) (x797 : Int) (s787 : Unit) : Option Unit :=
  (some ((decide (x797 < (0 : Int))) || (decide ((self0.f_members.length : Int) ≤ x797))) >>= fun b805 => bif b805 then none else some (()))
def m_Order__require (self0 : m_Order) (first0 : Int) (second0 : Int) : Option Unit :=
  (some ([first0, second0]) >>= fun xs782 => forS (m_Order__require_b1 self0) xs782 () >>= fun s787 => some ())
theorem sc_Order__require : FnScope ["self", "first", "second", "value"] ["self", "first", "second"] (defScope s_Order__require) := ⟨rfl, rfl, rfl, by decide +kernel, rfl, by decide +kernel, by decide +kernel⟩
theorem ok_Order__require (T : Tx K mg) : Fm P w K mg base CX0 1 "Order" "_require" ["self", "first", "second"] (PF (aC (r_Order K) (aC rI (aC rI aN))) rU (fun i => m_Order__require i.1 i.2.1 i.2.2.1)) := by
  obtain ⟨fd, F⟩ := T.def_ 14 rfl
  have nd := sc_Order__require.nd
  refine fm_mk F (fun _ _ _ _ _ _ us hl => match us, hl with | [_, _, _], _ => rfl) (F.ok sc_Order__require (fun vs H Q E h => ?_) (fun cdv A outer s H vs Q E hr h => ?_))
  · obtain ⟨G, ⟨self0, first0, second0, ⟨⟩⟩, r, e0, ⟨vself0, _, rfl, hself0, vfirst0, _, rfl, hfirst0, vsecond0, _, rfl, hsecond0, rfl⟩, h, k⟩ := h
    rfl
  · obtain ⟨G, ⟨self0, first0, second0, ⟨⟩⟩, r, e0, ⟨vself0, _, rfl, hself0, vfirst0, _, rfl, hfirst0, vsecond0, _, rfl, hsecond0, rfl⟩, h, k⟩ := h
    cases hfirst0
    cases hsecond0
    have w0 := Wo.start e0
    have h : m_Order__require self0 first0 second0 = some r := h
    unfold m_Order__require at h
    refine ⟨_, PSs.nox (pss_cons (ps_for PassesOwn.never rfl (pi_tup (pe_tup (pa_cons (pv 1) (pa_cons (pv 2) pa_nil)))) (pg_name (i := 3) nd rfl (Or.inl rfl)) (pss_cons (ps_if (PW.pt (pw_or (pt_cmpR op_lt (pv 3) pe_int (nomark _)) (pw_or1 (pt_cmpR op_ge (pv 3) (pe_callB (r := rLn K) call_len_seq (by rfl) (fr_len T) (by decide +kernel) (pa_cons (show L2.PE _ _ (tFld K _ _) from pe_fld (pv 0) (by rfl)) pa_nil)) (nomark _))))) (pss_cons ps_never pss_nil) pss_nil) pss_nil)) pss_nil), ?_⟩
    obtain ⟨xs782, hx783, h⟩ := bindS h
    obtain ⟨t785, hx786, h⟩ := bindS h
    refine x_forT w0 (e_tupH (eal_cons (e_var (R := rI) (x := first0) rfl rfl) (eal_cons (e_var (R := rI) (x := second0) rfl rfl) eal_nil))) hx783 (fun i G' H' σ' => ∃ s787 : Unit, ∃ u788 : Option V, Wo G H [] G' H' [] ∧ Evl.Ex G G' ∧ σ' = [some vself0, some (V.int first0), some (V.int second0), u788] ∧ forS (m_Order__require_b1 self0) (xs782.drop i) s787 = some t785) (fun _ _ _ _ ⟨_, _, w, _⟩ => w.ex) ?_ ?_ ?_
    · intro G' H' w' e'
      exact ⟨(), (none), w', e', rfl, hx786⟩
    · rintro G799 e800 i796 x797 v801 σ' G792 H795 hx798 e803 ⟨s787, u788, w793, e794, rfl, hm790⟩ r802
      obtain ⟨q791, hb789, hm790⟩ := forS_at hx798 hm790
      have h804 := Rep.mono _ e794 hself0
      refine g_name ?_
      cases r802
      unfold m_Order__require_b1 at hb789
      obtain ⟨b805, hx806, hb789⟩ := bindS hb789
      refine x_if w793 (et_orP (et_T (e_op rr_lt (e_var (R := rI) (x := x797) rfl rfl) e_int)) (et_T (e_op rr_ge (e_var (R := rI) (x := x797) rfl rfl) (e_cb rc_lenL (ea_cons (e_fld 3 (fun (o : m_Order) => o.f_members) (e_var (R := (r_Order K)) (x := self0) rfl (Rep.mono _ w793.ex h804)) (T.cls 60 rfl) (T.noat 64 rfl) (by decide +kernel) (fun _ => rfl)) ea_nil))))) hx806 ?_ ?_
      · intro hbb805 H807 w808
        subst hbb805
        have hb789 := bifT hb789
        cases (show none = some _ from hb789)
      · intro hbb805 H809 w810
        subst hbb805
        have hb789 := bifF hb789
        refine x_next ?_
        refine x_next ?_
        have hb789 : () = q791 := Option.some.inj hb789
        subst hb789
        exact ⟨G792, (e803.trans (Evl.Ex.refl _)), (), (some (V.int x797)), w810, e794, rfl, hm790⟩
    · rintro σ' G811 H814 e815 ⟨s787, u788, w812, e813, rfl, hm790⟩
      have hm790 := forS_end hm790
      subst hm790
      have h817 := Rep.mono _ e813 hself0
      refine x_next ?_
      have h : () = r := Option.some.inj h
      subst h
      exact k _ _ _ w812.upE rfl
def m_Order_below (self0 : m_Order) (first0 : Int) (second0 : Int) : Option Bool :=
  (m_Order__require self0 first0 second0 >>= fun a818 => ((atI self0.f_above first0 >>= fun t822 => atI t822 second0) >>= fun a823 => some a823))
theorem sc_Order_below : FnScope ["self", "first", "second"] ["self", "first", "second"] (defScope s_Order_below) := ⟨rfl, rfl, rfl, by decide +kernel, rfl, by decide +kernel, by decide +kernel⟩
theorem ok_Order_below (T : Tx K mg) : Fm P w K mg base CX0 2 "Order" "below" ["self", "first", "second"] (PF (aC (r_Order K) (aC rI (aC rI aN))) rB (fun i => m_Order_below i.1 i.2.1 i.2.2.1)) := by
  obtain ⟨fd_Order__require, G_Order__require, b_Order__require⟩ := ok_Order__require (w := w) (base := base) T
  obtain ⟨fd, F⟩ := T.def_ 15 rfl
  have nd := sc_Order_below.nd
  refine fm_mk F (fun _ _ _ _ _ _ us hl => match us, hl with | [_, _, _], _ => rfl) (F.ok sc_Order_below (fun vs H Q E h => ?_) (fun cdv A outer s H vs Q E hr h => ?_))
  · obtain ⟨G, ⟨self0, first0, second0, ⟨⟩⟩, r, e0, ⟨vself0, _, rfl, hself0, vfirst0, _, rfl, hfirst0, vsecond0, _, rfl, hsecond0, rfl⟩, h, k⟩ := h
    rfl
  · obtain ⟨G, ⟨self0, first0, second0, ⟨⟩⟩, r, e0, ⟨vself0, _, rfl, hself0, vfirst0, _, rfl, hfirst0, vsecond0, _, rfl, hsecond0, rfl⟩, h, k⟩ := h
    cases hfirst0
    cases hsecond0
    have w0 := Wo.start e0
    have h : m_Order_below self0 first0 second0 = some r := h
    unfold m_Order_below at h
    refine ⟨_, PSs.nox (pss_cons (ps_expr (pe_meth (pv 0) (T.cls 60 rfl) (T.meth 66 rfl) G_Order__require (hr.mono (by decide)) b_Order__require .nil pass0 (pa_cons (pv 1) (pa_cons (pv 2) pa_nil)))) (pss_cons (ps_ret (pe_ix (r := rIxL K) ix_list (pe_ix (r := rIxL K) ix_list (pe_fld (pv 0) rfl) (pv 1) (fun _ _ => rfl)) (pv 2) (fun _ _ => rfl))) pss_nil)), ?_⟩
    obtain ⟨a818, hx819, h⟩ := bindS h
    refine x_call w0 (e_meth (e_var (R := (r_Order K)) (x := self0) rfl hself0) (ea_cons (e_var (R := rI) (x := first0) rfl rfl) (ea_cons (e_var (R := rI) (x := second0) rfl rfl) ea_nil)) (by decide +kernel)) (by first | (simp only [be1, bs1, ba1] at hx819 ⊢; exact hx819) | exact hx819) ?_
    intro H820 w821
    obtain ⟨a823, hx824, h⟩ := bindS h
    have h : a823 = r := Option.some.inj h
    subst h
    exact x_ret w821 (e_op rr_ixL (e_op rr_ixL (e_fld 0 (fun (o : m_Order) => o.f_above) (e_var (R := (r_Order K)) (x := self0) rfl hself0) (T.cls 60 rfl) (T.noat 61 rfl) (by decide +kernel) (fun _ => rfl)) (e_var (R := rI) (x := first0) rfl rfl)) (e_var (R := rI) (x := second0) rfl rfl)) (by first | (simp only [be1, bs1, ba1] at hx824 ⊢; exact hx824) | exact hx824) (fun v9 H9 G9 w9 e9 r9 => k v9 H9 G9 w9.upE r9)
def m__law_pot_b2 (x960 : Int) (s950 : ((List Int) × Int)) : Option ((List Int) × Int) :=
  ((some ((decide ((0 : Int) < s950.2)) || (x960 == (0 : Int))) >>= fun b963 => bif b963 then (modM s950.2 (100 : Int) >>= fun a982 => appM s950.1 a982 >>= fun pot_here_983 => some pot_here_983) else some s950.1) >>= fun s974 => (fdivM s950.2 (100 : Int) >>= fun rest_997 => some ((s974, rest_997))))
def m__law_pot_b1 (script0 : (List Int)) (x870 : Int) (s857 : (List Int)) : Option (List Int) :=
  ((atI script0 x870 >>= fun t873 => some (if t873 < 0 then -t873 else t873)) >>= fun rest_874 => (some (60 : Int) >>= fun many_878 => (((powM (10 : Int) (18 : Int) >>= fun t882 => some (decide (rest_874 < t882))) >>= fun b883 => bif b883 then ((((mulM (2 : Int) rest_874 >>= fun t917 => (((atI script0 x870 >>= fun t915 => some (decide (t915 < (0 : Int)))) >>= fun t916 => some (if t916 = true then (1 : Int) else 0)) >>= fun t918 => some (t917 + t918))) >>= fun t920 => ((mulM (2 : Int) x870 >>= fun t919 => some ((48271 : Int) + t919)) >>= fun t921 => mulM t920 t921)) >>= fun t922 => modM t922 (2147483647 : Int)) >>= fun rest_923 => (((mulM rest_923 rest_923 >>= fun t927 => (mulM rest_923 x870 >>= fun t928 => some (t927 + t928))) >>= fun t929 => modM t929 (2147483629 : Int)) >>= fun rest_930 => (some (4 : Int) >>= fun many_934 => some (many_934, rest_930)))) else some (many_878, rest_874)) >>= fun s907 => (some s907.1 >>= fun n943 => rngM 0 n943 >>= fun xs945 => forS (m__law_pot_b2) xs945 (s857, s907.2) >>= fun s950 => some (s950.1)))))
def m__law_pot (script0 : (List Int)) : Option (List Int) :=
  (some ([]) >>= fun pot_here_841 => (some (if (63 : Int) < (script0.length : Int) then (63 : Int) else (script0.length : Int)) >>= fun n850 => rngM 0 n850 >>= fun xs852 => forS (m__law_pot_b1 script0) xs852 pot_here_841 >>= fun s857 => (some (s857.reverse) >>= fun pot_here_1013 => some s857.reverse)))
theorem sc__law_pot : FnScope ["_law_script", "_law_pot_here", "_law_place", "_law_rest", "_law_many", "_law_k"] ["_law_script"] (defScope s__law_pot) := ⟨rfl, rfl, rfl, by decide +kernel, rfl, by decide +kernel, by decide +kernel⟩
theorem ok__law_pot (T : Tx K mg) : Fk P w K mg base CX0 1 "_law_pot" ["_law_script"] (PL (aC (rScr K) aN) rI (fun i => m__law_pot i.1)) := by
  obtain ⟨fd, F⟩ := T.def_ 31 rfl
  have nd := sc__law_pot.nd
  refine fk_mk T.toTx (x := "_law_pot") (T.glo 31 rfl) F (fun _ _ _ _ _ _ us hl => match us, hl with | [_], _ => rfl) (F.ok sc__law_pot (fun vs H Q E h => ?_) (fun cdv A outer s H vs Q E hr h => ?_))
  · obtain ⟨G, ⟨script0, ⟨⟩⟩, r, e0, ⟨vscript0, _, rfl, hscript0, rfl⟩, h, k⟩ := h
    rfl
  · obtain ⟨G, ⟨script0, ⟨⟩⟩, r, e0, ⟨vscript0, _, rfl, hscript0, rfl⟩, h, k⟩ := h
    have w0 := Wo.start e0
    have h : m__law_pot script0 = some r := h
    unfold m__law_pot at h
    refine ⟨_, PSs.nox (pss_cons (ps_set (i := 1) nd rfl (Or.inl rfl) (pe_lst pa_nil)) (pss_cons (ps_for PassesOwn.never rfl (pi_range1 (by rfl) (fr_range T) (pa_cons (pe_callB (call_min2 rfl) (by rfl) (fr_min T) (by decide +kernel) (pa_cons (pe_callB (r := rLn K) call_len_seq (by rfl) (fr_len T) (by decide +kernel) (pa_cons (pv 0) pa_nil)) (pa_cons pe_int pa_nil))) pa_nil)) (pg_name (i := 2) nd rfl (Or.inl rfl)) (pss_cons (ps_set (i := 3) nd rfl (Or.inl rfl) (pe_callB call_abs (by rfl) (fr_abs T) (by decide +kernel) (pa_cons (pe_ix (r := rIxL K) ix_list (pv 0) (pv 2) (fun _ _ => rfl)) pa_nil))) (pss_cons (ps_set (i := 4) nd rfl (Or.inl rfl) pe_int) (Evl.pss_cut (ps_if (pt_cmpR op_lt (pv 3) (pe_op op_pow pe_int pe_int) (nomark _)) (pss_cons (ps_set (i := 3) nd rfl (Or.inl rfl) (pe_op op_mod (pe_callTy call_int1 (by rfl) (fr_int T) (by decide +kernel) (pa_cons (pe_op op_mul (pe_op op_add (pe_op op_mul pe_int (pv 3)) (pe_callTy call_int1 (by rfl) (fr_int T) (by decide +kernel) (pa_cons (pe_cmpR op_lt (pe_ix (r := rIxL K) ix_list (pv 0) (pv 2) (fun _ _ => rfl)) pe_int (nomark _)) pa_nil))) (pe_op op_add pe_int (pe_op op_mul pe_int (pv 2)))) pa_nil)) pe_int)) (pss_cons (ps_set (i := 3) nd rfl (Or.inl rfl) (pe_op op_mod (pe_callTy call_int1 (by rfl) (fr_int T) (by decide +kernel) (pa_cons (pe_op op_add (pe_op op_mul (pv 3) (pv 3)) (pe_op op_mul (pv 3) (pv 2))) pa_nil)) pe_int)) (pss_cons (ps_set (i := 4) nd rfl (Or.inl rfl) pe_int) pss_nil))) pss_nil) (pss_cons (ps_for PassesOwn.never rfl (pi_range1 (by rfl) (fr_range T) (pa_cons (pv 4) pa_nil)) (pg_name (i := 5) nd rfl (Or.inl rfl)) (Evl.pss_cut (ps_if (PW.pt (pw_or (pt_cmpR op_gt (pv 3) pe_int (nomark _)) (pw_or1 (pt_cmpR op_eq (pv 5) pe_int (nomark _))))) (pss_cons (ps_expr (pe_bm PySem.F.plainAttrs_list PySem.F.slot_list_append PySem.F.type_list_append mt_append (pv 1) (pa_cons (pe_op op_mod (pe_callTy call_int1 (by rfl) (fr_int T) (by decide +kernel) (pa_cons (pv 3) pa_nil)) pe_int) pa_nil))) pss_nil) pss_nil) (pss_cons (ps_set (i := 3) nd rfl (Or.inl rfl) (pe_op op_fdiv (pv 3) pe_int)) pss_nil))) pss_nil))))) (pss_cons (ps_expr (pe_bm0 PySem.F.plainAttrs_list PySem.F.slot_list_reverse PySem.F.type_list_reverse mt_reverse (pv 1))) (pss_cons (ps_ret (pv 1)) pss_nil)))), ?_⟩
    obtain ⟨pot_here_841, hx842, h⟩ := bindS h
    refine x_setL w0 (el_disp (R := rI) eal_nil) hx842 ?_
    intro p845 H843 G846 n847 w844 e848
    have h849 := Rep.mono _ e848 hscript0
    obtain ⟨n850, hx851, h⟩ := bindS h
    obtain ⟨xs852, hx853, h⟩ := bindS h
    obtain ⟨t855, hx856, h⟩ := bindS h
    refine x_forR w844 (ea_cons (Sim.E.is (e_cb rc_min2 (ea_cons (e_cb rc_lenScr (ea_cons (e_var (R := (rScr K)) (x := script0) rfl h849) ea_nil)) (ea_cons e_int ea_nil))) hx851) ea_nil) rfl hx853 (fun i G' H' σ' => ∃ s857 : (List Int), ∃ u858 : Option V, ∃ u859 : Option V, ∃ u860 : Option V, ∃ u861 : Option V, Wo G H [] G' H' [(p845, cL rI s857)] ∧ Evl.Ex G846 G' ∧ σ' = [some vscript0, some (V.ref p845), u860, u861, u859, u858] ∧ forS (m__law_pot_b1 script0) (xs852.drop i) s857 = some t855) ?_ ?_ ?_
    · intro G' H' w' e'
      exact ⟨pot_here_841, (none), (none), (none), (none), w', e', rfl, hx856⟩
    · rintro i869 x870 σ' G865 H868 hx871 ⟨s857, u858, u859, u860, u861, w866, e867, rfl, hm863⟩
      obtain ⟨q864, hb862, hm863⟩ := forS_at hx871 hm863
      have h872 := Rep.mono _ e867 h849
      refine g_name ?_
      unfold m__law_pot_b1 at hb862
      obtain ⟨rest_874, hx875, hb862⟩ := bindS hb862
      refine x_setI w866 (e_cb rc_abs (ea_cons (e_op rr_ixScr (e_var (R := (rScr K)) (x := script0) rfl h872) (e_var (R := rI) (x := x870) rfl rfl)) ea_nil)) (by first | (simp only [be1, bs1, ba1] at hx875 ⊢; exact hx875) | exact hx875) ?_
      intro H876 w877
      obtain ⟨many_878, hx879, hb862⟩ := bindS hb862
      refine x_setI w877 e_int hx879 ?_
      intro H880 w881
      obtain ⟨s907, hx908, hb862⟩ := bindS hb862
      refine o_cut (fun σ' H' => ∃ G' : Hp, Wo G H [] G' H' [(p845, cL rI s857)] ∧ Evl.Ex G865 G' ∧ σ' = [some vscript0, some (V.ref p845), some (V.int x870), some (V.int s907.2), some (V.int s907.1), u858]) ?_ ?_
      · obtain ⟨b883, hx912, hx908⟩ := bindS hx908
        refine x_if w881 (et_T (e_op rr_lt (e_var (R := rI) (x := rest_874) rfl rfl) (e_op rr_pow e_int e_int))) (by first | (simp only [be1, bs1, ba1] at hx912 ⊢; exact hx912) | exact hx912) ?_ ?_
        · intro hbb883 H913 w914
          subst hbb883
          have hx908 := bifT hx908
          obtain ⟨rest_923, hx924, hx908⟩ := bindS hx908
          refine x_setI w914 (e_op rr_mod (e_cb rc_intI (ea_cons (e_op rr_mul (e_op rr_add (e_op rr_mul e_int (e_var (R := rI) (x := rest_874) rfl rfl)) (e_cb rc_intB (ea_cons (e_op rr_lt (e_op rr_ixScr (e_var (R := (rScr K)) (x := script0) rfl h872) (e_var (R := rI) (x := x870) rfl rfl)) e_int) ea_nil))) (e_op rr_add e_int (e_op rr_mul e_int (e_var (R := rI) (x := x870) rfl rfl)))) ea_nil)) e_int) (by first | (simp only [be1, bs1, ba1] at hx924 ⊢; exact hx924) | exact hx924) ?_
          intro H925 w926
          obtain ⟨rest_930, hx931, hx908⟩ := bindS hx908
          refine x_setI w926 (e_op rr_mod (e_cb rc_intI (ea_cons (e_op rr_add (e_op rr_mul (e_var (R := rI) (x := rest_923) rfl rfl) (e_var (R := rI) (x := rest_923) rfl rfl)) (e_op rr_mul (e_var (R := rI) (x := rest_923) rfl rfl) (e_var (R := rI) (x := x870) rfl rfl))) ea_nil)) e_int) (by first | (simp only [be1, bs1, ba1] at hx931 ⊢; exact hx931) | exact hx931) ?_
          intro H932 w933
          obtain ⟨many_934, hx935, hx908⟩ := bindS hx908
          refine x_setI w933 e_int hx935 ?_
          intro H936 w937
          refine x_next ?_
          have hx908 : (many_934, rest_930) = s907 := Option.some.inj hx908
          subst hx908
          exact ⟨G865, w937, (Evl.Ex.refl _), rfl⟩
        · intro hbb883 H938 w939
          subst hbb883
          have hx908 := bifF hx908
          refine x_next ?_
          have hx908 : (many_878, rest_874) = s907 := Option.some.inj hx908
          subst hx908
          exact ⟨G865, w939, (Evl.Ex.refl _), rfl⟩
      · rintro σ' H942 ⟨G940, w910, e909, rfl⟩
        have h941 := Rep.mono _ e909 h872
        obtain ⟨n943, hx944, hb862⟩ := bindS hb862
        obtain ⟨xs945, hx946, hb862⟩ := bindS hb862
        obtain ⟨t948, hx949, hb862⟩ := bindS hb862
        refine x_forR w910 (ea_cons (Sim.E.is (e_var (R := rI) (x := s907.1) rfl rfl) hx944) ea_nil) rfl hx946 (fun i G' H' σ' => ∃ s950 : ((List Int) × Int), ∃ u951 : Option V, Wo G H [] G' H' [(p845, cL rI s950.1)] ∧ Evl.Ex G940 G' ∧ σ' = [some vscript0, some (V.ref p845), some (V.int x870), some (V.int s950.2), some (V.int s907.1), u951] ∧ forS (m__law_pot_b2) (xs945.drop i) s950 = some t948) ?_ ?_ ?_
        · intro G' H' w' e'
          exact ⟨(s857, s907.2), (u858), w', e', rfl, hx949⟩
        · rintro i959 x960 σ' G955 H958 hx961 ⟨s950, u951, w956, e957, rfl, hm953⟩
          obtain ⟨q954, hb952, hm953⟩ := forS_at hx961 hm953
          have h962 := Rep.mono _ e957 h941
          refine g_name ?_
          unfold m__law_pot_b2 at hb952
          obtain ⟨s974, hx975, hb952⟩ := bindS hb952
          refine o_cut (fun σ' H' => ∃ G' : Hp, Wo G H [] G' H' [(p845, cL rI s974)] ∧ Evl.Ex G955 G' ∧ σ' = [some vscript0, some (V.ref p845), some (V.int x870), some (V.int s950.2), some (V.int s907.1), some (V.int x960)]) ?_ ?_
          · obtain ⟨b963, hx979, hx975⟩ := bindS hx975
            refine x_if w956 (et_orP (et_T (e_op rr_gt (e_var (R := rI) (x := s950.2) rfl rfl) e_int)) (et_T (e_op rr_eqI (e_var (R := rI) (x := x960) rfl rfl) e_int))) hx979 ?_ ?_
            · intro hbb963 H980 w981
              subst hbb963
              have hx975 := bifT hx975
              obtain ⟨a982, hx984, hx975⟩ := bindS hx975
              obtain ⟨pot_here_983, hx985, hx975⟩ := bindS hx975
              obtain ⟨hs986, rfl⟩ := appM_ok hx985
              refine x_app (j := 0) w981 rfl hs986 rfl (e_op rr_mod (e_cb rc_intI (ea_cons (e_var (R := rI) (x := s950.2) rfl rfl) ea_nil)) e_int) (by first | (simp only [be1, bs1, ba1] at hx984 ⊢; exact hx984) | exact hx984) ?_
              intro H987 G988 w989 e990
              have h991 := Rep.mono _ e990 h962
              have w989 : Wo G H [] G988 H987 [(p845, cL rI (s950.1 ++ [a982]))] := w989
              refine x_next ?_
              have hx975 : (s950.1 ++ [a982]) = s974 := Option.some.inj hx975
              subst hx975
              exact ⟨G988, w989, e990, rfl⟩
            · intro hbb963 H992 w993
              subst hbb963
              have hx975 := bifF hx975
              refine x_next ?_
              have hx975 : s950.1 = s974 := Option.some.inj hx975
              subst hx975
              exact ⟨G955, w993, (Evl.Ex.refl _), rfl⟩
          · rintro σ' H996 ⟨G994, w977, e976, rfl⟩
            have h995 := Rep.mono _ e976 h962
            obtain ⟨rest_997, hx998, hb952⟩ := bindS hb952
            refine x_setI w977 (e_op rr_fdiv (e_var (R := rI) (x := s950.2) rfl rfl) e_int) (by first | (simp only [be1, bs1, ba1] at hx998 ⊢; exact hx998) | exact hx998) ?_
            intro H999 w1000
            refine x_next ?_
            have hb952 : (s974, rest_997) = q954 := Option.some.inj hb952
            subst hb952
            exact ⟨G994, (s974, rest_997), (some (V.int x960)), w1000, (e957.trans e976), rfl, hm953⟩
        · rintro σ' G1001 H1004 ⟨s950, u951, w1002, e1003, rfl, hm953⟩
          have hm953 := forS_end hm953
          subst hm953
          have h1006 := Rep.mono _ e1003 h941
          refine x_next ?_
          have hb862 : s950.1 = q864 := Option.some.inj hb862
          subst hb862
          exact ⟨G1001, s950.1, (u951), (some (V.int s907.1)), (some (V.int x870)), (some (V.int s950.2)), w1002, ((e867.trans e909).trans e1003), rfl, hm863⟩
    · rintro σ' G1007 H1010 ⟨s857, u858, u859, u860, u861, w1008, e1009, rfl, hm863⟩
      have hm863 := forS_end hm863
      subst hm863
      have h1012 := Rep.mono _ e1009 h849
      refine x_drop ?_
      obtain ⟨pot_here_1013, hx1014, h⟩ := bindS h
      cases hx1014
      refine o_bm0 (j := 0) w1008 rfl rfl (c_rev (j := 0) w1008 rfl ?_)
      intro H1015 w1016
      have w1016 : Wo G H [] G1007 H1015 [(p845, cL rI s857.reverse)] := w1016
      have h : s857.reverse = r := Option.some.inj h
      subst h
      refine x_retO (o_var rfl ?_)
      exact k _ _ _ n847 w1016.upE (w1016.sub1 (i := 0) rfl)
def m__law_draw (pot_here0 : (List Int)) (many0 : Int) : Option (Int × (List Int)) :=
  (some ((pot_here0.length : Int) == (0 : Int)) >>= fun b1017 => bif b1017 then (some (0 : Int) >>= fun a1021 => some (a1021, pot_here0)) else (popM pot_here0 >>= fun x1025 => (some many0 >>= fun x1032 => (modM x1025.1 x1032 >>= fun x1036 => some (x1036, x1025.2)))))
theorem sc__law_draw : FnScope ["_law_pot_here", "_law_many"] ["_law_pot_here", "_law_many"] (defScope s__law_draw) := ⟨rfl, rfl, rfl, by decide +kernel, rfl, by decide +kernel, by decide +kernel⟩
theorem ok__law_draw (T : Tx K mg) : Fk P w K mg base CX0 1 "_law_draw" ["_law_pot_here", "_law_many"] (P1 (aC rI aN) rI rI (fun ys i => m__law_draw ys i.1)) := by
  obtain ⟨fd, F⟩ := T.def_ 32 rfl
  have nd := sc__law_draw.nd
  refine fk_mk T.toTx (x := "_law_draw") (T.glo 32 rfl) F (fun _ _ _ _ _ _ us hl => match us, hl with | [_, _], _ => rfl) (F.ok sc__law_draw (fun vs H Q E h => ?_) (fun cdv A outer s H vs Q E hr h => ?_))
  · obtain ⟨G, ⟨l, ⟨many0, ⟨⟩⟩⟩, pot_here0, r, k', ⟨_, _, rfl, rfl, ⟨vmany0, _, rfl, hmany0, rfl⟩⟩, wd, h, k⟩ := h
    rfl
  · obtain ⟨G, ⟨l, ⟨many0, ⟨⟩⟩⟩, pot_here0, r, k', ⟨_, _, rfl, rfl, ⟨vmany0, _, rfl, hmany0, rfl⟩⟩, wd, h, k⟩ := h
    cases hmany0
    have e0 : Evl.Ex G H := wd.ex
    have w0 : Wo G H [l] G H _ := Wo.startC wd
    have h : m__law_draw pot_here0 many0 = some (r, k') := h
    unfold m__law_draw at h
    refine ⟨_, PSs.nox (pss_cons (ps_if (pt_cmpR op_eq (pe_callB (r := rLn K) call_len_seq (by rfl) (fr_len T) (by decide +kernel) (pa_cons (pv 0) pa_nil)) pe_int (nomark _)) (pss_cons (ps_ret pe_int) pss_nil) pss_nil) (pss_cons (ps_ret (pe_op op_mod (pe_callTy call_int1 (by rfl) (fr_int T) (by decide +kernel) (pa_cons (pe_bm0 PySem.F.plainAttrs_list PySem.F.slot_list_pop PySem.F.type_list_pop mt_pop (pv 0)) pa_nil)) (pv 1))) pss_nil)), ?_⟩
    obtain ⟨b1017, hx1018, h⟩ := bindS h
    refine x_if w0 (et_T (e_op rr_eqI (e_cb rc_lenL (ea_cons (e_var (R := (rL rI)) (x := pot_here0) rfl (w0.rlAt (i := 0) rfl)) ea_nil)) e_int)) hx1018 ?_ ?_
    · intro hbb1017 H1019 w1020
      subst hbb1017
      have h := bifT h
      obtain ⟨a1021, hx1022, h⟩ := bindS h
      obtain ⟨h8, h9⟩ : a1021 = r ∧ pot_here0 = k' := Prod.mk.inj (Option.some.inj h)
      subst h8
      subst h9
      exact x_ret w1020 e_int hx1022 (fun v9 H9 G9 w9 e9 r9 => k v9 H9 G9 w9.f (w9.sub1 (i := 0) rfl) r9)
    · intro hbb1017 H1023 w1024
      subst hbb1017
      have h := bifF h
      refine x_next ?_
      refine x_retO ?_
      refine o_op ?_
      refine o_cb ?_
      refine o_cons ?_
      obtain ⟨x1025, hx1026, h⟩ := bindS h
      refine o_bm0 (j := 0) w1024 rfl rfl (c_pop (j := 0) w1024 rfl hx1026 ?_)
      intro v1027 H1028 w1029 r1030
      cases r1030
      have w1029 : Wo G H [l] G H1028 [(l, cL rI x1025.2)] := w1029
      refine o_nil ?_
      refine Or.inl ⟨_, rfl, ?_⟩
      obtain ⟨x1032, hx1033, h⟩ := bindS h
      refine c_i w1029 (e_var (R := rI) (x := many0) rfl rfl) hx1033 ?_
      intro H1034 w1035
      obtain ⟨x1036, hx1037, h⟩ := bindS h
      refine c_rr rr_mod w1035 rfl rfl hx1037 ?_
      intro u1038 H1039 G1040 w1041 e1042 r1043
      cases r1043
      obtain ⟨h8, h9⟩ : x1036 = r ∧ x1025.2 = k' := Prod.mk.inj (Option.some.inj h)
      subst h8
      subst h9
      exact k _ _ _ w1041.f (w1041.sub1 (i := 0) rfl) rfl
def m__law_masks_b2 (x1122 : (Int × (List Int))) (x1155 : Int) (s1145 : (List Int)) : Option (List Int) :=
  ((some (!s1145.any fun z => z == (Builtin.bitAnd x1155 x1122.1)) >>= fun b1163 => bif b1163 then (some (Builtin.bitAnd x1155 x1122.1) >>= fun a1182 => appM s1145 a1182 >>= fun more_1183 => some more_1183) else some s1145) >>= fun s1174 => some (s1174))
def m__law_masks_b1 (most0 : Int) (x1115 : Int) (s1100 : ((List Int) × (List Int))) : Option ((List Int) × (List Int)) :=
  (some (32 : Int) >>= fun x1117 => (m__law_draw s1100.2 x1117 >>= fun x1122 => (some s1100.1 >>= fun more_1131 => (some s1100.1 >>= fun xs1140 => forS (m__law_masks_b2 x1122) xs1140 more_1131 >>= fun s1145 => ((some (decide ((s1145.length : Int) ≤ most0)) >>= fun b1209 => bif b1209 then (some s1145 >>= fun masks_here_1230 => some masks_here_1230) else some s1100.1) >>= fun s1220 => some ((s1220, x1122.2)))))))
def m__law_masks_b3 (x1289 : Int) (s1279 : ((List Int) × ((List Int) × (List Int)))) : Option ((List Int) × ((List Int) × (List Int))) :=
  (some (s1279.2.2.length : Int) >>= fun x1291 => (m__law_draw s1279.2.1 x1291 >>= fun x1296 => (popAtM s1279.2.2 x1296.1 >>= fun x1305 => (appM s1279.1 x1305.1 >>= fun masks_here_1312 => some ((masks_here_1312, (x1296.2, x1305.2)))))))
def m__law_masks (pot_here0 : (List Int)) (most0 : Int) : Option ((List Int) × (List Int)) :=
  (some ([(31 : Int)]) >>= fun masks_here_1044 => (some (6 : Int) >>= fun x1052 => (m__law_draw pot_here0 x1052 >>= fun x1057 => (some (1 : Int) >>= fun x1067 => (some (x1057.1 + x1067) >>= fun x1071 => (some (6 : Int) >>= fun x1081 => (modM x1071 x1081 >>= fun x1085 => (rngM 0 x1085 >>= fun xs1095 => forS (m__law_masks_b1 most0) xs1095 (masks_here_1044, x1057.2) >>= fun s1100 => ((if s1100.1.length < 64 then some (srtI s1100.1) else none) >>= fun rest_1250 => (some (rest_1250.length : Int) >>= fun size_1259 => (some ([]) >>= fun masks_here_1263 => (some size_1259 >>= fun n1272 => rngM 0 n1272 >>= fun xs1274 => forS (m__law_masks_b3) xs1274 (masks_here_1263, (s1100.2, rest_1250)) >>= fun s1279 => some (s1279.1, s1279.2.1)))))))))))))
theorem sc__law_masks : FnScope ["_law_pot_here", "_law_most", "_law_masks_here", "_law_k", "_law_rest", "_law_size", "_law_mask", "_law_more", "_law_old"] ["_law_pot_here", "_law_most"] (defScope s__law_masks) := ⟨rfl, rfl, rfl, by decide +kernel, rfl, by decide +kernel, by decide +kernel⟩
theorem ok__law_masks (T : Tx K mg) : Fk P w K mg base CX0 2 "_law_masks" ["_law_pot_here", "_law_most"] (P1L (aC rI aN) rI rI (fun ys i => m__law_masks ys i.1)) := by
  obtain ⟨fd__law_draw, G__law_draw, b__law_draw, k__law_draw, g__law_draw⟩ := ok__law_draw (w := w) (base := base) T
  obtain ⟨fd, F⟩ := T.def_ 33 rfl
  have nd := sc__law_masks.nd
  refine fk_mk T.toTx (x := "_law_masks") (T.glo 33 rfl) F (fun _ _ _ _ _ _ us hl => match us, hl with | [_, _], _ => rfl) (F.ok sc__law_masks (fun vs H Q E h => ?_) (fun cdv A outer s H vs Q E hr h => ?_))
  · obtain ⟨G, ⟨l, ⟨most0, ⟨⟩⟩⟩, pot_here0, r, k', ⟨_, _, rfl, rfl, ⟨vmost0, _, rfl, hmost0, rfl⟩⟩, wd, h, k⟩ := h
    rfl
  · obtain ⟨G, ⟨l, ⟨most0, ⟨⟩⟩⟩, pot_here0, r, k', ⟨_, _, rfl, rfl, ⟨vmost0, _, rfl, hmost0, rfl⟩⟩, wd, h, k⟩ := h
    cases hmost0
    have e0 : Evl.Ex G H := wd.ex
    have w0 : Wo G H [l] G H _ := Wo.startC wd
    have h : m__law_masks pot_here0 most0 = some (r, k') := h
    unfold m__law_masks at h
    refine ⟨_, PSs.nox (pss_cons (ps_set (i := 2) nd rfl (Or.inl rfl) (pe_lst (pa_cons pe_int pa_nil))) (pss_cons (ps_for PassesOwn.never rfl (pi_range1 (by rfl) (fr_range T) (pa_cons (pe_op op_mod (pe_callTy call_int1 (by rfl) (fr_int T) (by decide +kernel) (pa_cons (pe_op op_add (pe_call G__law_draw (hr.mono (by decide)) rfl g__law_draw k__law_draw b__law_draw .nil pass0 (pa_cons (pv 0) (pa_cons pe_int pa_nil))) pe_int) pa_nil)) pe_int) pa_nil)) (pg_name (i := 3) nd rfl (Or.inl rfl)) (pss_cons (ps_set (i := 6) nd rfl (Or.inl rfl) (pe_call G__law_draw (hr.mono (by decide)) rfl g__law_draw k__law_draw b__law_draw .nil pass0 (pa_cons (pv 0) (pa_cons pe_int pa_nil)))) (pss_cons (ps_set (i := 7) nd rfl (Or.inl rfl) (pe_callTy (r := rLs K) call_list_of (by rfl) (fr_list T) (by decide +kernel) (pa_cons (pv 2) pa_nil))) (pss_cons (ps_for PassesOwn.never rfl (pi_list (pv 2)) (pg_name (i := 8) nd rfl (Or.inl rfl)) (Evl.pss_cut (ps_if (pt_cmpR (r := rIn K true) op_notIn_seq (pe_op op_and (pv 8) (pv 6)) (pv 7) (by rfl)) (pss_cons (ps_expr (pe_bm PySem.F.plainAttrs_list PySem.F.slot_list_append PySem.F.type_list_append mt_append (pv 7) (pa_cons (pe_op op_and (pv 8) (pv 6)) pa_nil))) pss_nil) pss_nil) pss_nil)) (Evl.pss_cut (ps_if (pt_cmpR op_le (pe_callB (r := rLn K) call_len_seq (by rfl) (fr_len T) (by decide +kernel) (pa_cons (pv 7) pa_nil)) (pv 1) (nomark _)) (pss_cons (ps_set (i := 2) nd rfl (Or.inl rfl) (pe_callTy (r := rLs K) call_list_of (by rfl) (fr_list T) (by decide +kernel) (pa_cons (pv 7) pa_nil))) pss_nil) pss_nil) pss_nil))))) (pss_cons (ps_set (i := 4) nd rfl (Or.inl rfl) (pe_callB (r := rSorted K) cr_sorted (by rfl) (fr_sorted T) (by decide +kernel) (pa_cons (pv 2) pa_nil))) (pss_cons (ps_set (i := 5) nd rfl (Or.inl rfl) (pe_callB (r := rLn K) call_len_seq (by rfl) (fr_len T) (by decide +kernel) (pa_cons (pv 4) pa_nil))) (pss_cons (ps_set (i := 2) nd rfl (Or.inl rfl) (pe_lst pa_nil)) (pss_cons (ps_for PassesOwn.never rfl (pi_range1 (by rfl) (fr_range T) (pa_cons (pv 5) pa_nil)) (pg_name (i := 3) nd rfl (Or.inl rfl)) (pss_cons (ps_expr (pe_bm PySem.F.plainAttrs_list PySem.F.slot_list_append PySem.F.type_list_append mt_append (pv 2) (pa_cons (pe_bm PySem.F.plainAttrs_list PySem.F.slot_list_pop PySem.F.type_list_pop mt_popAt (pv 4) (pa_cons (pe_call G__law_draw (hr.mono (by decide)) rfl g__law_draw k__law_draw b__law_draw .nil pass0 (pa_cons (pv 0) (pa_cons (pe_callB (r := rLn K) call_len_seq (by rfl) (fr_len T) (by decide +kernel) (pa_cons (pv 4) pa_nil)) pa_nil))) pa_nil)) pa_nil))) pss_nil)) (pss_cons (ps_ret (pv 2)) pss_nil))))))), ?_⟩
    obtain ⟨masks_here_1044, hx1045, h⟩ := bindS h
    refine x_set w0 (EL.e (el_disp (eal_cons e_int eal_nil))) hx1045 ?_
    intro v1048 H1046 G1049 w1047 e1050 h1051
    refine o_forR ?_
    refine o_cons ?_
    refine o_op ?_
    refine o_cb ?_
    refine o_cons ?_
    refine o_op ?_
    refine o_call ?_
    refine o_cons ?_
    refine o_var rfl ?_
    refine o_cons ?_
    obtain ⟨x1052, hx1053, h⟩ := bindS h
    refine c_i w1047 e_int hx1053 ?_
    intro H1054 w1055
    refine o_nil ?_
    obtain ⟨x1057, hx1058, h⟩ := bindS h
    refine c_p1 (i := 0) (j := (x1052, ())) w1055 rfl ⟨_, _, rfl, rfl, rfl⟩ hx1058 ?_
    intro u1059 H1060 G1061 w1062 e1063 r1064
    have h1065 := Rep.mono _ e1063 h1051
    cases r1064
    have w1062 : Wo G H [l] G1061 H1060 [(l, cL rI x1057.2)] := w1062
    obtain ⟨x1067, hx1068, h⟩ := bindS h
    refine c_i w1062 e_int hx1068 ?_
    intro H1069 w1070
    obtain ⟨x1071, hx1072, h⟩ := bindS h
    refine c_rr rr_add w1070 rfl rfl hx1072 ?_
    intro u1073 H1074 G1075 w1076 e1077 r1078
    have h1079 := Rep.mono _ e1077 h1065
    cases r1078
    refine o_nil ?_
    refine Or.inl ⟨_, rfl, ?_⟩
    obtain ⟨x1081, hx1082, h⟩ := bindS h
    refine c_i w1076 e_int hx1082 ?_
    intro H1083 w1084
    obtain ⟨x1085, hx1086, h⟩ := bindS h
    refine c_rr rr_mod w1084 rfl rfl hx1086 ?_
    intro u1087 H1088 G1089 w1090 e1091 r1092
    have h1093 := Rep.mono _ e1091 h1079
    cases r1092
    refine o_nil ?_
    obtain ⟨xs1095, hx1096, h⟩ := bindS h
    obtain ⟨t1098, hx1099, h⟩ := bindS h
    refine v_forR w1090 hx1096 (fun i G' H' σ' => ∃ s1100 : ((List Int) × (List Int)), ∃ v1101 : V, ∃ u1103 : Option V, ∃ u1104 : Option V, ∃ u1105 : Option V, ∃ u1106 : Option V, Wo G H [l] G' H' [(l, cL rI s1100.2)] ∧ Evl.Ex G1089 G' ∧ σ' = [some (V.ref l), some (V.int most0), some v1101, u1103, none, none, u1104, u1105, u1106] ∧ (rL rI).r G' v1101 s1100.1 ∧ forS (m__law_masks_b1 most0) (xs1095.drop i) s1100 = some t1098) ?_ ?_ ?_
    · exact ⟨(masks_here_1044, x1057.2), v1048, (none), (none), (none), (none), w1090, (Evl.Ex.refl _), rfl, (Rep.mono _ (Evl.Ex.refl _) h1093), hx1099⟩
    · rintro i1114 x1115 σ' G1110 H1113 hx1116 ⟨s1100, v1101, u1103, u1104, u1105, u1106, w1111, e1112, rfl, h1102, hm1108⟩
      obtain ⟨q1109, hb1107, hm1108⟩ := forS_at hx1116 hm1108
      refine g_name ?_
      unfold m__law_masks_b1 at hb1107
      refine x_setO ?_
      refine o_call ?_
      refine o_cons ?_
      refine o_var rfl ?_
      refine o_cons ?_
      obtain ⟨x1117, hx1118, hb1107⟩ := bindS hb1107
      refine c_i w1111 e_int hx1118 ?_
      intro H1119 w1120
      refine o_nil ?_
      obtain ⟨x1122, hx1123, hb1107⟩ := bindS hb1107
      refine c_p1 (i := 0) (j := (x1117, ())) w1120 rfl ⟨_, _, rfl, rfl, rfl⟩ hx1123 ?_
      intro u1124 H1125 G1126 w1127 e1128 r1129
      have h1130 := Rep.mono _ e1128 h1102
      cases r1129
      have w1127 : Wo G H [l] G1126 H1125 [(l, cL rI x1122.2)] := w1127
      obtain ⟨more_1131, hx1132, hb1107⟩ := bindS hb1107
      refine x_setL w1127 (el_cb rc_listL (ea_cons (e_var (R := (rL rI)) (x := s1100.1) rfl h1130) ea_nil)) hx1132 ?_
      intro p1135 H1133 G1136 n1137 w1134 e1138
      have h1139 := Rep.mono _ e1138 h1130
      obtain ⟨xs1140, hx1141, hb1107⟩ := bindS hb1107
      obtain ⟨t1143, hx1144, hb1107⟩ := bindS hb1107
      refine x_forL w1134 (e_var (R := (rL rI)) (x := s1100.1) rfl h1139) hx1141 (fun i G' H' σ' => ∃ s1145 : (List Int), ∃ u1146 : Option V, Wo G H [l] G' H' [(p1135, cL rI s1145), (l, cL rI x1122.2)] ∧ Evl.Ex G1136 G' ∧ σ' = [some (V.ref l), some (V.int most0), some v1101, some (V.int x1115), none, none, some (V.int x1122.1), some (V.ref p1135), u1146] ∧ forS (m__law_masks_b2 x1122) (xs1140.drop i) s1145 = some t1143) (fun _ _ _ _ ⟨_, _, w, _⟩ => w.ex) ?_ ?_ ?_
      · intro G' H' w' e'
        exact ⟨more_1131, (u1106), w', e', rfl, hx1144⟩
      · rintro G1157 e1158 i1154 x1155 v1159 σ' G1150 H1153 hx1156 e1161 ⟨s1145, u1146, w1151, e1152, rfl, hm1148⟩ r1160
        obtain ⟨q1149, hb1147, hm1148⟩ := forS_at hx1156 hm1148
        have h1162 := Rep.mono _ e1152 h1139
        refine g_name ?_
        cases r1160
        unfold m__law_masks_b2 at hb1147
        obtain ⟨s1174, hx1175, hb1147⟩ := bindS hb1147
        refine o_cut (fun σ' H' => ∃ G' : Hp, Wo G H [l] G' H' [(p1135, cL rI s1174), (l, cL rI x1122.2)] ∧ Evl.Ex G1150 G' ∧ σ' = [some (V.ref l), some (V.int most0), some v1101, some (V.int x1115), none, none, some (V.int x1122.1), some (V.ref p1135), some (V.int x1155)]) ?_ ?_
        · obtain ⟨b1163, hx1179, hx1175⟩ := bindS hx1175
          refine x_if w1151 (et_T (e_op (rr_ninL flI) (e_op rr_and (e_var (R := rI) (x := x1155) rfl rfl) (e_var (R := rI) (x := x1122.1) rfl rfl)) (e_var (R := (rL rI)) (x := s1145) rfl (w1151.rlAt (i := 0) rfl)))) hx1179 ?_ ?_
          · intro hbb1163 H1180 w1181
            subst hbb1163
            have hx1175 := bifT hx1175
            obtain ⟨a1182, hx1184, hx1175⟩ := bindS hx1175
            obtain ⟨more_1183, hx1185, hx1175⟩ := bindS hx1175
            obtain ⟨hs1186, rfl⟩ := appM_ok hx1185
            refine x_app (j := 0) w1181 rfl hs1186 rfl (e_op rr_and (e_var (R := rI) (x := x1155) rfl rfl) (e_var (R := rI) (x := x1122.1) rfl rfl)) hx1184 ?_
            intro H1187 G1188 w1189 e1190
            have h1191 := Rep.mono _ e1190 h1162
            have w1189 : Wo G H [l] G1188 H1187 [(p1135, cL rI (s1145 ++ [a1182])), (l, cL rI x1122.2)] := w1189
            refine x_next ?_
            have hx1175 : (s1145 ++ [a1182]) = s1174 := Option.some.inj hx1175
            subst hx1175
            exact ⟨G1188, w1189, e1190, rfl⟩
          · intro hbb1163 H1192 w1193
            subst hbb1163
            have hx1175 := bifF hx1175
            refine x_next ?_
            have hx1175 : s1145 = s1174 := Option.some.inj hx1175
            subst hx1175
            exact ⟨G1150, w1193, (Evl.Ex.refl _), rfl⟩
        · rintro σ' H1196 ⟨G1194, w1177, e1176, rfl⟩
          have h1195 := Rep.mono _ e1176 h1162
          refine x_next ?_
          have hb1147 : s1174 = q1149 := Option.some.inj hb1147
          subst hb1147
          exact ⟨G1194, (e1161.trans e1176), s1174, (some (V.int x1155)), w1177, (e1152.trans e1176), rfl, hm1148⟩
      · rintro σ' G1197 H1200 e1201 ⟨s1145, u1146, w1198, e1199, rfl, hm1148⟩
        have hm1148 := forS_end hm1148
        subst hm1148
        have h1203 := Rep.mono _ e1199 h1139
        obtain ⟨G1204, w1205, e1206, h1207⟩ := w1198.freezeAt (i := 0) rfl n1137
        have h1208 := Rep.mono _ e1206 h1203
        have w1205 : Wo G H [l] G1204 H1200 [(l, cL rI x1122.2)] := w1205
        obtain ⟨s1220, hx1221, hb1107⟩ := bindS hb1107
        refine o_cut (fun σ' H' => ∃ v1222 : V, ∃ G' : Hp, Wo G H [l] G' H' [(l, cL rI x1122.2)] ∧ Evl.Ex G1204 G' ∧ σ' = [some (V.ref l), some (V.int most0), some v1222, some (V.int x1115), none, none, some (V.int x1122.1), some (V.ref p1135), u1146] ∧ (rL rI).r G' v1222 s1220) ?_ ?_
        · obtain ⟨b1209, hx1227, hx1221⟩ := bindS hx1221
          refine x_if w1205 (et_T (e_op rr_le (e_cb rc_lenL (ea_cons (e_var (R := (rL rI)) (x := s1145) rfl (Rep.mono _ w1205.ex h1207)) ea_nil)) (e_var (R := rI) (x := most0) rfl rfl))) hx1227 ?_ ?_
          · intro hbb1209 H1228 w1229
            subst hbb1209
            have hx1221 := bifT hx1221
            obtain ⟨masks_here_1230, hx1231, hx1221⟩ := bindS hx1221
            refine x_set w1229 (EL.e (el_cb rc_listL (ea_cons (e_var (R := (rL rI)) (x := s1145) rfl h1207) ea_nil))) hx1231 ?_
            intro v1234 H1232 G1235 w1233 e1236 h1237
            have h1238 := Rep.mono _ e1236 h1208
            have h1239 := Rep.mono _ e1236 h1207
            refine x_next ?_
            have hx1221 : masks_here_1230 = s1220 := Option.some.inj hx1221
            subst hx1221
            exact ⟨v1234, G1235, w1233, e1236, rfl, h1237⟩
          · intro hbb1209 H1240 w1241
            subst hbb1209
            have hx1221 := bifF hx1221
            refine x_next ?_
            have hx1221 : s1100.1 = s1220 := Option.some.inj hx1221
            subst hx1221
            exact ⟨v1101, G1204, w1241, (Evl.Ex.refl _), rfl, h1208⟩
        · rintro σ' H1244 ⟨v1222, G1242, w1225, e1224, rfl, h1223⟩
          have h1243 := Rep.mono _ e1224 h1207
          refine x_next ?_
          have hb1107 : (s1220, x1122.2) = q1109 := Option.some.inj hb1107
          subst hb1107
          exact ⟨G1242, (s1220, x1122.2), v1222, (some (V.int x1115)), (some (V.int x1122.1)), (some (V.ref p1135)), (u1146), w1225, (((((e1112.trans e1128).trans e1138).trans e1199).trans e1206).trans e1224), rfl, h1223, hm1108⟩
    · rintro σ' G1245 H1248 ⟨s1100, v1101, u1103, u1104, u1105, u1106, w1246, e1247, rfl, h1102, hm1108⟩
      have hm1108 := forS_end hm1108
      subst hm1108
      obtain ⟨rest_1250, hx1251, h⟩ := bindS h
      refine x_setL w1246 (el_cb rc_sorted (ea_cons (e_var (R := (rL rI)) (x := s1100.1) rfl h1102) ea_nil)) hx1251 ?_
      intro p1254 H1252 G1255 n1256 w1253 e1257
      have h1258 := Rep.mono _ e1257 h1102
      obtain ⟨size_1259, hx1260, h⟩ := bindS h
      refine x_setI w1253 (Sim.E.s scI (e_cb rc_lenL (ea_cons (e_var (R := (rL rI)) (x := rest_1250) rfl (w1253.rlAt (i := 0) rfl)) ea_nil))) hx1260 ?_
      intro H1261 w1262
      obtain ⟨masks_here_1263, hx1264, h⟩ := bindS h
      refine x_setL w1262 (el_disp (R := rI) eal_nil) hx1264 ?_
      intro p1267 H1265 G1268 n1269 w1266 e1270
      have h1271 := Rep.mono _ e1270 h1258
      obtain ⟨n1272, hx1273, h⟩ := bindS h
      obtain ⟨xs1274, hx1275, h⟩ := bindS h
      obtain ⟨t1277, hx1278, h⟩ := bindS h
      refine x_forR w1266 (ea_cons (Sim.E.is (e_var (R := rI) (x := size_1259) rfl rfl) hx1273) ea_nil) rfl hx1275 (fun i G' H' σ' => ∃ s1279 : ((List Int) × ((List Int) × (List Int))), ∃ u1280 : Option V, Wo G H [l] G' H' [(p1267, cL rI s1279.1), (p1254, cL rI s1279.2.2), (l, cL rI s1279.2.1)] ∧ Evl.Ex G1268 G' ∧ σ' = [some (V.ref l), some (V.int most0), some (V.ref p1267), u1280, some (V.ref p1254), some (V.int size_1259), u1104, u1105, u1106] ∧ forS (m__law_masks_b3) (xs1274.drop i) s1279 = some t1277) ?_ ?_ ?_
      · intro G' H' w' e'
        exact ⟨(masks_here_1263, (s1100.2, rest_1250)), (u1103), w', e', rfl, hx1278⟩
      · rintro i1288 x1289 σ' G1284 H1287 hx1290 ⟨s1279, u1280, w1285, e1286, rfl, hm1282⟩
        obtain ⟨q1283, hb1281, hm1282⟩ := forS_at hx1290 hm1282
        refine g_name ?_
        unfold m__law_masks_b3 at hb1281
        refine x_drop ?_
        refine o_bm (j := 0) w1285 rfl rfl ?_
        refine o_cons ?_
        refine o_bm (j := 1) w1285 rfl rfl ?_
        refine o_cons ?_
        refine o_call ?_
        refine o_cons ?_
        refine o_var rfl ?_
        refine o_cons ?_
        obtain ⟨x1291, hx1292, hb1281⟩ := bindS hb1281
        refine c_i w1285 (Sim.E.s scI (e_cb rc_lenL (ea_cons (e_var (R := (rL rI)) (x := s1279.2.2) rfl (w1285.rlAt (i := 1) rfl)) ea_nil))) hx1292 ?_
        intro H1293 w1294
        refine o_nil ?_
        obtain ⟨x1296, hx1297, hb1281⟩ := bindS hb1281
        refine c_p1 (i := 2) (j := (x1291, ())) w1294 rfl ⟨_, _, rfl, rfl, rfl⟩ hx1297 ?_
        intro u1298 H1299 G1300 w1301 e1302 r1303
        cases r1303
        have w1301 : Wo G H [l] G1300 H1299 [(p1267, cL rI s1279.1), (p1254, cL rI s1279.2.2), (l, cL rI x1296.2)] := w1301
        refine o_nil ?_
        obtain ⟨x1305, hx1306, hb1281⟩ := bindS hb1281
        refine c_popAt (j := 1) w1301 rfl hx1306 ?_
        intro v1307 H1308 w1309 r1310
        cases r1310
        have w1309 : Wo G H [l] G1300 H1308 [(p1267, cL rI s1279.1), (p1254, cL rI x1305.2), (l, cL rI x1296.2)] := w1309
        refine o_nil ?_
        obtain ⟨masks_here_1312, hx1313, hb1281⟩ := bindS hb1281
        obtain ⟨hs1316, q1317⟩ := appM_ok hx1313
        subst q1317
        refine c_app (j := 0) w1309 rfl hs1316 rfl ?_
        intro H1314 w1315
        have w1315 : Wo G H [l] G1300 H1314 [(p1267, cL rI (s1279.1 ++ [x1305.1])), (p1254, cL rI x1305.2), (l, cL rI x1296.2)] := w1315
        refine x_next ?_
        have hb1281 : ((s1279.1 ++ [x1305.1]), (x1296.2, x1305.2)) = q1283 := Option.some.inj hb1281
        subst hb1281
        exact ⟨G1300, ((s1279.1 ++ [x1305.1]), (x1296.2, x1305.2)), (some (V.int x1289)), w1315, (e1286.trans e1302), rfl, hm1282⟩
      · rintro σ' G1318 H1321 ⟨s1279, u1280, w1319, e1320, rfl, hm1282⟩
        have hm1282 := forS_end hm1282
        subst hm1282
        obtain ⟨h8, h9⟩ : s1279.1 = r ∧ s1279.2.1 = k' := Prod.mk.inj (Option.some.inj h)
        subst h8
        subst h9
        refine x_retO (o_var rfl ?_)
        exact k _ _ _ n1269 w1319.f (w1319.sub2 (i := 0) (j := 2) rfl rfl (by decide))
def m__law_under (masks_here0 : (List Int)) (low0 : Int) (high0 : Int) : Option Bool :=
  (((atI masks_here0 low0 >>= fun t1323 => (atI masks_here0 high0 >>= fun t1324 => some (Builtin.bitAnd t1323 t1324))) >>= fun t1325 => (atI masks_here0 low0 >>= fun t1326 => some (t1325 == t1326))) >>= fun a1327 => some a1327)
theorem sc__law_under : FnScope ["_law_masks_here", "_law_low", "_law_high"] ["_law_masks_here", "_law_low", "_law_high"] (defScope s__law_under) := ⟨rfl, rfl, rfl, by decide +kernel, rfl, by decide +kernel, by decide +kernel⟩
theorem ok__law_under (T : Tx K mg) : Fk P w K mg base CX0 1 "_law_under" ["_law_masks_here", "_law_low", "_law_high"] (PF (aC (rL rI) (aC rI (aC rI aN))) rB (fun i => m__law_under i.1 i.2.1 i.2.2.1)) := by
  obtain ⟨fd, F⟩ := T.def_ 34 rfl
  have nd := sc__law_under.nd
  refine fk_mk T.toTx (x := "_law_under") (T.glo 34 rfl) F (fun _ _ _ _ _ _ us hl => match us, hl with | [_, _, _], _ => rfl) (F.ok sc__law_under (fun vs H Q E h => ?_) (fun cdv A outer s H vs Q E hr h => ?_))
  · obtain ⟨G, ⟨masks_here0, low0, high0, ⟨⟩⟩, r, e0, ⟨vmasks_here0, _, rfl, hmasks_here0, vlow0, _, rfl, hlow0, vhigh0, _, rfl, hhigh0, rfl⟩, h, k⟩ := h
    rfl
  · obtain ⟨G, ⟨masks_here0, low0, high0, ⟨⟩⟩, r, e0, ⟨vmasks_here0, _, rfl, hmasks_here0, vlow0, _, rfl, hlow0, vhigh0, _, rfl, hhigh0, rfl⟩, h, k⟩ := h
    cases hlow0
    cases hhigh0
    have w0 := Wo.start e0
    have h : m__law_under masks_here0 low0 high0 = some r := h
    unfold m__law_under at h
    refine ⟨_, PSs.nox (pss_cons (ps_ret (pe_cmpR op_eq (pe_op op_and (pe_ix (r := rIxL K) ix_list (pv 0) (pv 1) (fun _ _ => rfl)) (pe_ix (r := rIxL K) ix_list (pv 0) (pv 2) (fun _ _ => rfl))) (pe_ix (r := rIxL K) ix_list (pv 0) (pv 1) (fun _ _ => rfl)) (nomark _))) pss_nil), ?_⟩
    obtain ⟨a1327, hx1328, h⟩ := bindS h
    have h : a1327 = r := Option.some.inj h
    subst h
    exact x_ret w0 (e_op rr_eqI (e_op rr_and (e_op rr_ixL (e_var (R := (rL rI)) (x := masks_here0) rfl hmasks_here0) (e_var (R := rI) (x := low0) rfl rfl)) (e_op rr_ixL (e_var (R := (rL rI)) (x := masks_here0) rfl hmasks_here0) (e_var (R := rI) (x := high0) rfl rfl))) (e_op rr_ixL (e_var (R := (rL rI)) (x := masks_here0) rfl hmasks_here0) (e_var (R := rI) (x := low0) rfl rfl))) (by first | (simp only [be1, bs1, ba1] at hx1328 ⊢; exact hx1328) | exact hx1328) (fun v9 H9 G9 w9 e9 r9 => k v9 H9 G9 w9.upE r9)
def m__law_pairs_b2 (x1356 : Int) (masks_here0 : (List Int)) (x1376 : Int) (s1366 : (List (Int × Int))) : Option (List (Int × Int)) :=
  (((andO (some (!(x1356 == x1376))) (m__law_under masks_here0 x1356 x1376)) >>= fun b1379 => bif b1379 then (some (x1356, x1376) >>= fun a1398 => appM s1366 a1398 >>= fun pairs_here_1399 => some pairs_here_1399) else some s1366) >>= fun s1390 => some (s1390))
def m__law_pairs_b1 (masks_here0 : (List Int)) (x1356 : Int) (s1345 : (List (Int × Int))) : Option (List (Int × Int)) :=
  (some (masks_here0.length : Int) >>= fun n1359 => rngM 0 n1359 >>= fun xs1361 => forS (m__law_pairs_b2 x1356 masks_here0) xs1361 s1345 >>= fun s1366 => some (s1366))
def m__law_pairs (masks_here0 : (List Int)) : Option (List (Int × Int)) :=
  (some ([]) >>= fun pairs_here_1329 => (some (masks_here0.length : Int) >>= fun n1338 => rngM 0 n1338 >>= fun xs1340 => forS (m__law_pairs_b1 masks_here0) xs1340 pairs_here_1329 >>= fun s1345 => some s1345))
theorem sc__law_pairs : FnScope ["_law_masks_here", "_law_pairs_here", "_law_low", "_law_high"] ["_law_masks_here"] (defScope s__law_pairs) := ⟨rfl, rfl, rfl, by decide +kernel, rfl, by decide +kernel, by decide +kernel⟩
theorem ok__law_pairs (T : Tx K mg) : Fk P w K mg base CX0 2 "_law_pairs" ["_law_masks_here"] (PL (aC (rL rI) aN) (rP rI rI) (fun i => m__law_pairs i.1)) := by
  obtain ⟨fd__law_under, G__law_under, b__law_under, k__law_under, g__law_under⟩ := ok__law_under (w := w) (base := base) T
  obtain ⟨fd, F⟩ := T.def_ 37 rfl
  have nd := sc__law_pairs.nd
  refine fk_mk T.toTx (x := "_law_pairs") (T.glo 37 rfl) F (fun _ _ _ _ _ _ us hl => match us, hl with | [_], _ => rfl) (F.ok sc__law_pairs (fun vs H Q E h => ?_) (fun cdv A outer s H vs Q E hr h => ?_))
  · obtain ⟨G, ⟨masks_here0, ⟨⟩⟩, r, e0, ⟨vmasks_here0, _, rfl, hmasks_here0, rfl⟩, h, k⟩ := h
    rfl
  · obtain ⟨G, ⟨masks_here0, ⟨⟩⟩, r, e0, ⟨vmasks_here0, _, rfl, hmasks_here0, rfl⟩, h, k⟩ := h
    have w0 := Wo.start e0
    have h : m__law_pairs masks_here0 = some r := h
    unfold m__law_pairs at h
    refine ⟨_, PSs.nox (pss_cons (ps_set (i := 1) nd rfl (Or.inl rfl) (pe_lst pa_nil)) (pss_cons (ps_for PassesOwn.never rfl (pi_range1 (by rfl) (fr_range T) (pa_cons (pe_callB (r := rLn K) call_len_seq (by rfl) (fr_len T) (by decide +kernel) (pa_cons (pv 0) pa_nil)) pa_nil)) (pg_name (i := 2) nd rfl (Or.inl rfl)) (pss_cons (ps_for PassesOwn.never rfl (pi_range1 (by rfl) (fr_range T) (pa_cons (pe_callB (r := rLn K) call_len_seq (by rfl) (fr_len T) (by decide +kernel) (pa_cons (pv 0) pa_nil)) pa_nil)) (pg_name (i := 3) nd rfl (Or.inl rfl)) (Evl.pss_cut (ps_if (PW.pt (pw_and (pt_cmpR op_ne (pv 2) (pv 3) (nomark _)) (pw_and1 (pt_val (pe_call G__law_under (hr.mono (by decide)) rfl g__law_under k__law_under b__law_under .nil pass0 (pa_cons (pv 0) (pa_cons (pv 2) (pa_cons (pv 3) pa_nil)))))))) (pss_cons (ps_expr (pe_bm PySem.F.plainAttrs_list PySem.F.slot_list_append PySem.F.type_list_append mt_append (pv 1) (pa_cons (pe_tup (pa_cons (pv 2) (pa_cons (pv 3) pa_nil))) pa_nil))) pss_nil) pss_nil) pss_nil)) pss_nil)) (pss_cons (ps_ret (pv 1)) pss_nil))), ?_⟩
    obtain ⟨pairs_here_1329, hx1330, h⟩ := bindS h
    refine x_setL w0 (el_disp (R := (rP rI rI)) eal_nil) hx1330 ?_
    intro p1333 H1331 G1334 n1335 w1332 e1336
    have h1337 := Rep.mono _ e1336 hmasks_here0
    obtain ⟨n1338, hx1339, h⟩ := bindS h
    obtain ⟨xs1340, hx1341, h⟩ := bindS h
    obtain ⟨t1343, hx1344, h⟩ := bindS h
    refine x_forR w1332 (ea_cons (Sim.E.is (e_cb rc_lenL (ea_cons (e_var (R := (rL rI)) (x := masks_here0) rfl h1337) ea_nil)) hx1339) ea_nil) rfl hx1341 (fun i G' H' σ' => ∃ s1345 : (List (Int × Int)), ∃ u1346 : Option V, ∃ u1347 : Option V, Wo G H [] G' H' [(p1333, cL (rP rI rI) s1345)] ∧ Evl.Ex G1334 G' ∧ σ' = [some vmasks_here0, some (V.ref p1333), u1347, u1346] ∧ forS (m__law_pairs_b1 masks_here0) (xs1340.drop i) s1345 = some t1343) ?_ ?_ ?_
    · intro G' H' w' e'
      exact ⟨pairs_here_1329, (none), (none), w', e', rfl, hx1344⟩
    · rintro i1355 x1356 σ' G1351 H1354 hx1357 ⟨s1345, u1346, u1347, w1352, e1353, rfl, hm1349⟩
      obtain ⟨q1350, hb1348, hm1349⟩ := forS_at hx1357 hm1349
      have h1358 := Rep.mono _ e1353 h1337
      refine g_name ?_
      unfold m__law_pairs_b1 at hb1348
      obtain ⟨n1359, hx1360, hb1348⟩ := bindS hb1348
      obtain ⟨xs1361, hx1362, hb1348⟩ := bindS hb1348
      obtain ⟨t1364, hx1365, hb1348⟩ := bindS hb1348
      refine x_forR w1352 (ea_cons (Sim.E.is (e_cb rc_lenL (ea_cons (e_var (R := (rL rI)) (x := masks_here0) rfl h1358) ea_nil)) hx1360) ea_nil) rfl hx1362 (fun i G' H' σ' => ∃ s1366 : (List (Int × Int)), ∃ u1367 : Option V, Wo G H [] G' H' [(p1333, cL (rP rI rI) s1366)] ∧ Evl.Ex G1351 G' ∧ σ' = [some vmasks_here0, some (V.ref p1333), some (V.int x1356), u1367] ∧ forS (m__law_pairs_b2 x1356 masks_here0) (xs1361.drop i) s1366 = some t1364) ?_ ?_ ?_
      · intro G' H' w' e'
        exact ⟨s1345, (u1346), w', e', rfl, hx1365⟩
      · rintro i1375 x1376 σ' G1371 H1374 hx1377 ⟨s1366, u1367, w1372, e1373, rfl, hm1369⟩
        obtain ⟨q1370, hb1368, hm1369⟩ := forS_at hx1377 hm1369
        have h1378 := Rep.mono _ e1373 h1358
        refine g_name ?_
        unfold m__law_pairs_b2 at hb1368
        obtain ⟨s1390, hx1391, hb1368⟩ := bindS hb1368
        refine o_cut (fun σ' H' => ∃ G' : Hp, Wo G H [] G' H' [(p1333, cL (rP rI rI) s1390)] ∧ Evl.Ex G1371 G' ∧ σ' = [some vmasks_here0, some (V.ref p1333), some (V.int x1356), some (V.int x1376)]) ?_ ?_
        · obtain ⟨b1379, hx1395, hx1391⟩ := bindS hx1391
          refine x_if w1372 (et_and (et_T (e_op rr_neI (e_var (R := rI) (x := x1356) rfl rfl) (e_var (R := rI) (x := x1376) rfl rfl))) (et_B (e_call (ea_cons (e_var (R := (rL rI)) (x := masks_here0) rfl (Rep.mono _ w1372.ex h1378)) (ea_cons (e_var (R := rI) (x := x1356) rfl rfl) (ea_cons (e_var (R := rI) (x := x1376) rfl rfl) ea_nil)))))) (by first | (simp only [be1, bs1, ba1] at hx1395 ⊢; exact hx1395) | exact hx1395) ?_ ?_
          · intro hbb1379 H1396 w1397
            subst hbb1379
            have hx1391 := bifT hx1391
            obtain ⟨a1398, hx1400, hx1391⟩ := bindS hx1391
            obtain ⟨pairs_here_1399, hx1401, hx1391⟩ := bindS hx1391
            obtain ⟨hs1402, rfl⟩ := appM_ok hx1401
            refine x_app (j := 0) w1397 rfl hs1402 rfl (e_pair (e_var (R := rI) (x := x1356) rfl rfl) (e_var (R := rI) (x := x1376) rfl rfl)) hx1400 ?_
            intro H1403 G1404 w1405 e1406
            have h1407 := Rep.mono _ e1406 h1378
            have w1405 : Wo G H [] G1404 H1403 [(p1333, cL (rP rI rI) (s1366 ++ [a1398]))] := w1405
            refine x_next ?_
            have hx1391 : (s1366 ++ [a1398]) = s1390 := Option.some.inj hx1391
            subst hx1391
            exact ⟨G1404, w1405, e1406, rfl⟩
          · intro hbb1379 H1408 w1409
            subst hbb1379
            have hx1391 := bifF hx1391
            refine x_next ?_
            have hx1391 : s1366 = s1390 := Option.some.inj hx1391
            subst hx1391
            exact ⟨G1371, w1409, (Evl.Ex.refl _), rfl⟩
        · rintro σ' H1412 ⟨G1410, w1393, e1392, rfl⟩
          have h1411 := Rep.mono _ e1392 h1378
          refine x_next ?_
          have hb1368 : s1390 = q1370 := Option.some.inj hb1368
          subst hb1368
          exact ⟨G1410, s1390, (some (V.int x1376)), w1393, (e1373.trans e1392), rfl, hm1369⟩
      · rintro σ' G1413 H1416 ⟨s1366, u1367, w1414, e1415, rfl, hm1369⟩
        have hm1369 := forS_end hm1369
        subst hm1369
        have h1418 := Rep.mono _ e1415 h1358
        refine x_next ?_
        have hb1348 : s1366 = q1350 := Option.some.inj hb1348
        subst hb1348
        exact ⟨G1413, s1366, (u1367), (some (V.int x1356)), w1414, (e1353.trans e1415), rfl, hm1349⟩
    · rintro σ' G1419 H1422 ⟨s1345, u1346, u1347, w1420, e1421, rfl, hm1349⟩
      have hm1349 := forS_end hm1349
      subst hm1349
      have h1424 := Rep.mono _ e1421 h1337
      have h : s1345 = r := Option.some.inj h
      subst h
      refine x_retO (o_var rfl ?_)
      exact k _ _ _ n1335 w1420.upE (w1420.sub1 (i := 0) rfl)
def m_Order_least_b1 (self0 : m_Order) (x1444 : Int) (s1434 : Int) : Option Int :=
  (((atI self0.f_meets s1434 >>= fun t1452 => atI t1452 x1444) >>= fun t1453 => t1453) >>= fun found_1454 => some (found_1454))
def m_Order_least (self0 : m_Order) : Option Int :=
  (some (0 : Int) >>= fun found_1425 => (some self0.f_members >>= fun xs1429 => forS (m_Order_least_b1 self0) xs1429 found_1425 >>= fun s1434 => (some s1434 >>= fun a1465 => some a1465)))
theorem sc_Order_least : FnScope ["self", "found", "value"] ["self"] (defScope s_Order_least) := ⟨rfl, rfl, rfl, by decide +kernel, rfl, by decide +kernel, by decide +kernel⟩
theorem ok_Order_least (T : Tx K mg) : Fp P w K mg base CX0 1 "Order" "least" ["self"] (PF (aC (r_Order K) aN) rI (fun i => m_Order_least i.1)) := by
  obtain ⟨_, _, fd, F⟩ := T.ge 0 rfl
  have nd := sc_Order_least.nd
  refine fp_mk F (fun _ _ _ _ _ _ us hl => match us, hl with | [_], _ => rfl) (F.ok sc_Order_least (fun vs H Q E h => ?_) (fun cdv A outer s H vs Q E hr h => ?_))
  · obtain ⟨G, ⟨self0, ⟨⟩⟩, r, e0, ⟨vself0, _, rfl, hself0, rfl⟩, h, k⟩ := h
    rfl
  · obtain ⟨G, ⟨self0, ⟨⟩⟩, r, e0, ⟨vself0, _, rfl, hself0, rfl⟩, h, k⟩ := h
    have w0 := Wo.start e0
    have h : m_Order_least self0 = some r := h
    unfold m_Order_least at h
    refine ⟨_, PSs.nox (pss_cons (ps_set (i := 1) nd rfl (Or.inl rfl) pe_int) (pss_cons (ps_for PassesOwn.never rfl (pi_list (pe_fld (pv 0) rfl)) (pg_name (i := 2) nd rfl (Or.inl rfl)) (pss_cons (ps_set (i := 1) nd rfl (Or.inl rfl) (pe_ix (r := rIxL K) ix_list (pe_ix (r := rIxL K) ix_list (pe_fld (pv 0) rfl) (pv 1) (fun _ _ => rfl)) (pv 2) (fun _ _ => rfl))) pss_nil)) (pss_cons (ps_ret (pv 1)) pss_nil))), ?_⟩
    obtain ⟨found_1425, hx1426, h⟩ := bindS h
    refine x_setI w0 e_int hx1426 ?_
    intro H1427 w1428
    obtain ⟨xs1429, hx1430, h⟩ := bindS h
    obtain ⟨t1432, hx1433, h⟩ := bindS h
    refine x_forL w1428 (e_fld 3 (fun (o : m_Order) => o.f_members) (e_var (R := (r_Order K)) (x := self0) rfl hself0) (T.cls 60 rfl) (T.noat 64 rfl) (by decide +kernel) (fun _ => rfl)) hx1430 (fun i G' H' σ' => ∃ s1434 : Int, ∃ u1435 : Option V, Wo G H [] G' H' [] ∧ Evl.Ex G G' ∧ σ' = [some vself0, some (V.int s1434), u1435] ∧ forS (m_Order_least_b1 self0) (xs1429.drop i) s1434 = some t1432) (fun _ _ _ _ ⟨_, _, w, _⟩ => w.ex) ?_ ?_ ?_
    · intro G' H' w' e'
      exact ⟨found_1425, (none), w', e', rfl, hx1433⟩
    · rintro G1446 e1447 i1443 x1444 v1448 σ' G1439 H1442 hx1445 e1450 ⟨s1434, u1435, w1440, e1441, rfl, hm1437⟩ r1449
      obtain ⟨q1438, hb1436, hm1437⟩ := forS_at hx1445 hm1437
      have h1451 := Rep.mono _ e1441 hself0
      refine g_name ?_
      cases r1449
      unfold m_Order_least_b1 at hb1436
      obtain ⟨found_1454, hx1455, hb1436⟩ := bindS hb1436
      refine x_setI w1440 (e_get (e_op rr_ixL (e_op rr_ixL (e_fld 2 (fun (o : m_Order) => o.f_meets) (e_var (R := (r_Order K)) (x := self0) rfl h1451) (T.cls 60 rfl) (T.noat 63 rfl) (by decide +kernel) (fun _ => rfl)) (e_var (R := rI) (x := s1434) rfl rfl)) (e_var (R := rI) (x := x1444) rfl rfl))) (by first | (simp only [be1, bs1, ba1] at hx1455 ⊢; exact hx1455) | exact hx1455) ?_
      intro H1456 w1457
      refine x_next ?_
      have hb1436 : found_1454 = q1438 := Option.some.inj hb1436
      subst hb1436
      exact ⟨G1439, (e1450.trans (Evl.Ex.refl _)), found_1454, (some (V.int x1444)), w1457, e1441, rfl, hm1437⟩
    · rintro σ' G1458 H1461 e1462 ⟨s1434, u1435, w1459, e1460, rfl, hm1437⟩
      have hm1437 := forS_end hm1437
      subst hm1437
      have h1464 := Rep.mono _ e1460 hself0
      obtain ⟨a1465, hx1466, h⟩ := bindS h
      have h : a1465 = r := Option.some.inj h
      subst h
      exact x_ret w1459 (e_var (R := rI) (x := s1434) rfl rfl) hx1466 (fun v9 H9 G9 w9 e9 r9 => k v9 H9 G9 w9.upE r9)
def m_Order_greatest_b1 (self0 : m_Order) (x1486 : Int) (s1476 : Int) : Option Int :=
  (((atI self0.f_joins s1476 >>= fun t1494 => atI t1494 x1486) >>= fun t1495 => t1495) >>= fun found_1496 => some (found_1496))
def m_Order_greatest (self0 : m_Order) : Option Int :=
  (some (0 : Int) >>= fun found_1467 => (some self0.f_members >>= fun xs1471 => forS (m_Order_greatest_b1 self0) xs1471 found_1467 >>= fun s1476 => (some s1476 >>= fun a1507 => some a1507)))
theorem sc_Order_greatest : FnScope ["self", "found", "value"] ["self"] (defScope s_Order_greatest) := ⟨rfl, rfl, rfl, by decide +kernel, rfl, by decide +kernel, by decide +kernel⟩
theorem ok_Order_greatest (T : Tx K mg) : Fp P w K mg base CX0 1 "Order" "greatest" ["self"] (PF (aC (r_Order K) aN) rI (fun i => m_Order_greatest i.1)) := by
  obtain ⟨_, _, fd, F⟩ := T.ge 1 rfl
  have nd := sc_Order_greatest.nd
  refine fp_mk F (fun _ _ _ _ _ _ us hl => match us, hl with | [_], _ => rfl) (F.ok sc_Order_greatest (fun vs H Q E h => ?_) (fun cdv A outer s H vs Q E hr h => ?_))
  · obtain ⟨G, ⟨self0, ⟨⟩⟩, r, e0, ⟨vself0, _, rfl, hself0, rfl⟩, h, k⟩ := h
    rfl
  · obtain ⟨G, ⟨self0, ⟨⟩⟩, r, e0, ⟨vself0, _, rfl, hself0, rfl⟩, h, k⟩ := h
    have w0 := Wo.start e0
    have h : m_Order_greatest self0 = some r := h
    unfold m_Order_greatest at h
    refine ⟨_, PSs.nox (pss_cons (ps_set (i := 1) nd rfl (Or.inl rfl) pe_int) (pss_cons (ps_for PassesOwn.never rfl (pi_list (pe_fld (pv 0) rfl)) (pg_name (i := 2) nd rfl (Or.inl rfl)) (pss_cons (ps_set (i := 1) nd rfl (Or.inl rfl) (pe_ix (r := rIxL K) ix_list (pe_ix (r := rIxL K) ix_list (pe_fld (pv 0) rfl) (pv 1) (fun _ _ => rfl)) (pv 2) (fun _ _ => rfl))) pss_nil)) (pss_cons (ps_ret (pv 1)) pss_nil))), ?_⟩
    obtain ⟨found_1467, hx1468, h⟩ := bindS h
    refine x_setI w0 e_int hx1468 ?_
    intro H1469 w1470
    obtain ⟨xs1471, hx1472, h⟩ := bindS h
    obtain ⟨t1474, hx1475, h⟩ := bindS h
    refine x_forL w1470 (e_fld 3 (fun (o : m_Order) => o.f_members) (e_var (R := (r_Order K)) (x := self0) rfl hself0) (T.cls 60 rfl) (T.noat 64 rfl) (by decide +kernel) (fun _ => rfl)) hx1472 (fun i G' H' σ' => ∃ s1476 : Int, ∃ u1477 : Option V, Wo G H [] G' H' [] ∧ Evl.Ex G G' ∧ σ' = [some vself0, some (V.int s1476), u1477] ∧ forS (m_Order_greatest_b1 self0) (xs1471.drop i) s1476 = some t1474) (fun _ _ _ _ ⟨_, _, w, _⟩ => w.ex) ?_ ?_ ?_
    · intro G' H' w' e'
      exact ⟨found_1467, (none), w', e', rfl, hx1475⟩
    · rintro G1488 e1489 i1485 x1486 v1490 σ' G1481 H1484 hx1487 e1492 ⟨s1476, u1477, w1482, e1483, rfl, hm1479⟩ r1491
      obtain ⟨q1480, hb1478, hm1479⟩ := forS_at hx1487 hm1479
      have h1493 := Rep.mono _ e1483 hself0
      refine g_name ?_
      cases r1491
      unfold m_Order_greatest_b1 at hb1478
      obtain ⟨found_1496, hx1497, hb1478⟩ := bindS hb1478
      refine x_setI w1482 (e_get (e_op rr_ixL (e_op rr_ixL (e_fld 1 (fun (o : m_Order) => o.f_joins) (e_var (R := (r_Order K)) (x := self0) rfl h1493) (T.cls 60 rfl) (T.noat 62 rfl) (by decide +kernel) (fun _ => rfl)) (e_var (R := rI) (x := s1476) rfl rfl)) (e_var (R := rI) (x := x1486) rfl rfl))) (by first | (simp only [be1, bs1, ba1] at hx1497 ⊢; exact hx1497) | exact hx1497) ?_
      intro H1498 w1499
      refine x_next ?_
      have hb1478 : found_1496 = q1480 := Option.some.inj hb1478
      subst hb1478
      exact ⟨G1481, (e1492.trans (Evl.Ex.refl _)), found_1496, (some (V.int x1486)), w1499, e1483, rfl, hm1479⟩
    · rintro σ' G1500 H1503 e1504 ⟨s1476, u1477, w1501, e1502, rfl, hm1479⟩
      have hm1479 := forS_end hm1479
      subst hm1479
      have h1506 := Rep.mono _ e1502 hself0
      obtain ⟨a1507, hx1508, h⟩ := bindS h
      have h : a1507 = r := Option.some.inj h
      subst h
      exact x_ret w1501 (e_var (R := rI) (x := s1476) rfl rfl) hx1508 (fun v9 H9 G9 w9 e9 r9 => k v9 H9 G9 w9.upE r9)
def m_Order___contains__ (self0 : m_Order) (value0 : Int) : Option Bool :=
  ((some (0 : Int) >>= fun t1511 => some value0 >>= fun t1512 => andO (some (decide (t1511 ≤ t1512))) (some (self0.f_members.length : Int) >>= fun t1513 => some (decide (t1512 < t1513)))) >>= fun a1514 => some a1514)
theorem sc_Order___contains__ : FnScope ["self", "value"] ["self", "value"] (defScope s_Order___contains__) := ⟨rfl, rfl, rfl, by decide +kernel, rfl, by decide +kernel, by decide +kernel⟩
theorem ok_Order___contains__ (T : Tx K mg) : Fm P w K mg base CX0 1 "Order" "__contains__" ["self", "value"] (PF (aC (r_Order K) (aC rI aN)) rB (fun i => m_Order___contains__ i.1 i.2.1)) := by
  obtain ⟨fd, F⟩ := T.def_ 18 rfl
  have nd := sc_Order___contains__.nd
  refine fm_mk F (fun _ _ _ _ _ _ us hl => match us, hl with | [_, _], _ => rfl) (F.ok sc_Order___contains__ (fun vs H Q E h => ?_) (fun cdv A outer s H vs Q E hr h => ?_))
  · obtain ⟨G, ⟨self0, value0, ⟨⟩⟩, r, e0, ⟨vself0, _, rfl, hself0, vvalue0, _, rfl, hvalue0, rfl⟩, h, k⟩ := h
    rfl
  · obtain ⟨G, ⟨self0, value0, ⟨⟩⟩, r, e0, ⟨vself0, _, rfl, hself0, vvalue0, _, rfl, hvalue0, rfl⟩, h, k⟩ := h
    cases hvalue0
    have w0 := Wo.start e0
    have h : m_Order___contains__ self0 value0 = some r := h
    unfold m_Order___contains__ at h
    refine ⟨_, PSs.nox (pss_cons (ps_ret (pe_chain op_le op_lt pe_int (pv 1) (pe_callB (r := rLn K) call_len_seq (by rfl) (fr_len T) (by decide +kernel) (pa_cons (pe_fld (pv 0) rfl) pa_nil)))) pss_nil), ?_⟩
    obtain ⟨a1514, hx1515, h⟩ := bindS h
    have h : a1514 = r := Option.some.inj h
    subst h
    exact x_ret w0 (e_chain rr_le rr_lt e_int (e_var (R := rI) (x := value0) rfl rfl) (e_cb rc_lenL (ea_cons (e_fld 3 (fun (o : m_Order) => o.f_members) (e_var (R := (r_Order K)) (x := self0) rfl hself0) (T.cls 60 rfl) (T.noat 64 rfl) (by decide +kernel) (fun _ => rfl)) ea_nil))) (by first | (simp only [be1, bs1, ba1] at hx1515 ⊢; exact hx1515) | exact hx1515) (fun v9 H9 G9 w9 e9 r9 => k v9 H9 G9 w9.upE r9)
def m__law_names_b2 (s1535 : ((List Str) × (List Int))) (x1649 : Int) (s1639 : Str) : Option Str :=
  ((some (s1535.1.any fun z => z == s1639) >>= fun b1651 => bif b1651 then (addS s1639 ("x" : Str) >>= fun name_1664 => some name_1664) else some s1639) >>= fun s1656 => some (s1656))
def m__law_names_b1 (signs_1516 : Str) (x1547 : Int) (s1535 : ((List Str) × (List Int))) : Option ((List Str) × (List Int)) :=
  (some signs_1516 >>= fun x1549 => (some (62 : Int) >>= fun x1554 => (m__law_draw s1535.2 x1554 >>= fun x1559 => (ixS x1549 x1559.1 >>= fun x1567 => (some (4 : Int) >>= fun x1576 => (m__law_draw x1559.2 x1576 >>= fun x1581 => (mulS x1567 x1581.1 >>= fun x1589 => (some signs_1516 >>= fun x1598 => (some (62 : Int) >>= fun x1603 => (m__law_draw x1581.2 x1603 >>= fun x1608 => (ixS x1598 x1608.1 >>= fun x1616 => (addS x1589 x1616 >>= fun x1624 => (some x1547 >>= fun n1632 => rngM 0 n1632 >>= fun xs1634 => forS (m__law_names_b2 s1535) xs1634 x1624 >>= fun s1639 => (some s1639 >>= fun a1677 => appM s1535.1 a1677 >>= fun names_here_1678 => some ((names_here_1678, x1608.2))))))))))))))))
def m__law_names (pot_here0 : (List Int)) (many0 : Int) : Option ((List Str) × (List Int)) :=
  (some ("abcdefghijklmnopqrstuvwxyzABCDEFGHIJKLMNOPQRSTUVWXYZ0123456789" : Str) >>= fun signs_1516 => (some ([]) >>= fun names_here_1520 => (some many0 >>= fun n1528 => rngM 0 n1528 >>= fun xs1530 => forS (m__law_names_b1 signs_1516) xs1530 (names_here_1520, pot_here0) >>= fun s1535 => some (s1535.1, s1535.2))))
theorem sc__law_names : FnScope ["_law_pot_here", "_law_many", "_law_signs", "_law_names_here", "_law_k", "_law_name", "_law_other"] ["_law_pot_here", "_law_many"] (defScope s__law_names) := ⟨rfl, rfl, rfl, by decide +kernel, rfl, by decide +kernel, by decide +kernel⟩
theorem ok__law_names (T : Tx K mg) : Fk P w K mg base CX0 2 "_law_names" ["_law_pot_here", "_law_many"] (P1L (aC rI aN) rI rS (fun ys i => m__law_names ys i.1)) := by
  obtain ⟨fd__law_draw, G__law_draw, b__law_draw, k__law_draw, g__law_draw⟩ := ok__law_draw (w := w) (base := base) T
  obtain ⟨fd, F⟩ := T.def_ 38 rfl
  have nd := sc__law_names.nd
  refine fk_mk T.toTx (x := "_law_names") (T.glo 38 rfl) F (fun _ _ _ _ _ _ us hl => match us, hl with | [_, _], _ => rfl) (F.ok sc__law_names (fun vs H Q E h => ?_) (fun cdv A outer s H vs Q E hr h => ?_))
  · obtain ⟨G, ⟨l, ⟨many0, ⟨⟩⟩⟩, pot_here0, r, k', ⟨_, _, rfl, rfl, ⟨vmany0, _, rfl, hmany0, rfl⟩⟩, wd, h, k⟩ := h
    rfl
  · obtain ⟨G, ⟨l, ⟨many0, ⟨⟩⟩⟩, pot_here0, r, k', ⟨_, _, rfl, rfl, ⟨vmany0, _, rfl, hmany0, rfl⟩⟩, wd, h, k⟩ := h
    cases hmany0
    have e0 : Evl.Ex G H := wd.ex
    have w0 : Wo G H [l] G H _ := Wo.startC wd
    have h : m__law_names pot_here0 many0 = some (r, k') := h
    unfold m__law_names at h
    refine ⟨_, PSs.nox (pss_cons (ps_set (i := 2) nd rfl (Or.inl rfl) pe_str) (pss_cons (ps_set (i := 3) nd rfl (Or.inl rfl) (pe_lst pa_nil)) (pss_cons (ps_for PassesOwn.never rfl (pi_range1 (by rfl) (fr_range T) (pa_cons (pv 1) pa_nil)) (pg_name (i := 4) nd rfl (Or.inl rfl)) (pss_cons (ps_set (i := 5) nd rfl (Or.inl rfl) (pe_op (r := rAddS) op_add_str (pe_op (r := rMulS) op_mulS (pe_ix (r := rIxS) ix_str (pv 2) (pe_call G__law_draw (hr.mono (by decide)) rfl g__law_draw k__law_draw b__law_draw .nil pass0 (pa_cons (pv 0) (pa_cons pe_int pa_nil))) (fun _ _ => rfl)) (pe_call G__law_draw (hr.mono (by decide)) rfl g__law_draw k__law_draw b__law_draw .nil pass0 (pa_cons (pv 0) (pa_cons pe_int pa_nil)))) (pe_ix (r := rIxS) ix_str (pv 2) (pe_call G__law_draw (hr.mono (by decide)) rfl g__law_draw k__law_draw b__law_draw .nil pass0 (pa_cons (pv 0) (pa_cons pe_int pa_nil))) (fun _ _ => rfl)))) (pss_cons (ps_for PassesOwn.never rfl (pi_range1 (by rfl) (fr_range T) (pa_cons (pv 4) pa_nil)) (pg_name (i := 6) nd rfl (Or.inl rfl)) (Evl.pss_cut (ps_if (pt_cmpR (r := rIn K false) op_in_seq (pv 5) (pv 3) (by rfl)) (pss_cons (ps_set (i := 5) nd rfl (Or.inl rfl) (pe_op (r := rAddS) op_add_str (pv 5) pe_str)) pss_nil) pss_nil) pss_nil)) (pss_cons (ps_expr (pe_bm PySem.F.plainAttrs_list PySem.F.slot_list_append PySem.F.type_list_append mt_append (pv 3) (pa_cons (pv 5) pa_nil))) pss_nil)))) (pss_cons (ps_ret (pv 3)) pss_nil)))), ?_⟩
    obtain ⟨signs_1516, hx1517, h⟩ := bindS h
    refine x_setS w0 e_str hx1517 ?_
    intro H1518 w1519
    obtain ⟨names_here_1520, hx1521, h⟩ := bindS h
    refine x_setL w1519 (el_disp (R := rS) eal_nil) hx1521 ?_
    intro p1524 H1522 G1525 n1526 w1523 e1527
    obtain ⟨n1528, hx1529, h⟩ := bindS h
    obtain ⟨xs1530, hx1531, h⟩ := bindS h
    obtain ⟨t1533, hx1534, h⟩ := bindS h
    refine x_forR w1523 (ea_cons (Sim.E.is (e_var (R := rI) (x := many0) rfl rfl) hx1529) ea_nil) rfl hx1531 (fun i G' H' σ' => ∃ s1535 : ((List Str) × (List Int)), ∃ u1536 : Option V, ∃ u1537 : Option V, ∃ u1538 : Option V, Wo G H [l] G' H' [(p1524, cL rS s1535.1), (l, cL rI s1535.2)] ∧ Evl.Ex G1525 G' ∧ σ' = [some (V.ref l), some (V.int many0), some (V.str signs_1516), some (V.ref p1524), u1536, u1537, u1538] ∧ forS (m__law_names_b1 signs_1516) (xs1530.drop i) s1535 = some t1533) ?_ ?_ ?_
    · intro G' H' w' e'
      exact ⟨(names_here_1520, pot_here0), (none), (none), (none), w', e', rfl, hx1534⟩
    · rintro i1546 x1547 σ' G1542 H1545 hx1548 ⟨s1535, u1536, u1537, u1538, w1543, e1544, rfl, hm1540⟩
      obtain ⟨q1541, hb1539, hm1540⟩ := forS_at hx1548 hm1540
      refine g_name ?_
      unfold m__law_names_b1 at hb1539
      refine x_setO ?_
      refine o_op ?_
      refine o_op ?_
      refine o_op ?_
      obtain ⟨x1549, hx1550, hb1539⟩ := bindS hb1539
      refine c_s w1543 (e_var (R := rS) (x := signs_1516) rfl rfl) hx1550 ?_
      intro H1551 w1552
      refine o_call ?_
      refine o_cons ?_
      refine o_var rfl ?_
      refine o_cons ?_
      obtain ⟨x1554, hx1555, hb1539⟩ := bindS hb1539
      refine c_i w1552 e_int hx1555 ?_
      intro H1556 w1557
      refine o_nil ?_
      obtain ⟨x1559, hx1560, hb1539⟩ := bindS hb1539
      refine c_p1 (i := 1) (j := (x1554, ())) w1557 rfl ⟨_, _, rfl, rfl, rfl⟩ hx1560 ?_
      intro u1561 H1562 G1563 w1564 e1565 r1566
      cases r1566
      have w1564 : Wo G H [l] G1563 H1562 [(p1524, cL rS s1535.1), (l, cL rI x1559.2)] := w1564
      obtain ⟨x1567, hx1568, hb1539⟩ := bindS hb1539
      refine c_rr rr_ixS w1564 rfl rfl hx1568 ?_
      intro u1569 H1570 G1571 w1572 e1573 r1574
      cases r1574
      refine o_call ?_
      refine o_cons ?_
      refine o_var rfl ?_
      refine o_cons ?_
      obtain ⟨x1576, hx1577, hb1539⟩ := bindS hb1539
      refine c_i w1572 e_int hx1577 ?_
      intro H1578 w1579
      refine o_nil ?_
      obtain ⟨x1581, hx1582, hb1539⟩ := bindS hb1539
      refine c_p1 (i := 1) (j := (x1576, ())) w1579 rfl ⟨_, _, rfl, rfl, rfl⟩ hx1582 ?_
      intro u1583 H1584 G1585 w1586 e1587 r1588
      cases r1588
      have w1586 : Wo G H [l] G1585 H1584 [(p1524, cL rS s1535.1), (l, cL rI x1581.2)] := w1586
      obtain ⟨x1589, hx1590, hb1539⟩ := bindS hb1539
      refine c_rr rr_mulS w1586 rfl rfl hx1590 ?_
      intro u1591 H1592 G1593 w1594 e1595 r1596
      cases r1596
      refine o_op ?_
      obtain ⟨x1598, hx1599, hb1539⟩ := bindS hb1539
      refine c_s w1594 (e_var (R := rS) (x := signs_1516) rfl rfl) hx1599 ?_
      intro H1600 w1601
      refine o_call ?_
      refine o_cons ?_
      refine o_var rfl ?_
      refine o_cons ?_
      obtain ⟨x1603, hx1604, hb1539⟩ := bindS hb1539
      refine c_i w1601 e_int hx1604 ?_
      intro H1605 w1606
      refine o_nil ?_
      obtain ⟨x1608, hx1609, hb1539⟩ := bindS hb1539
      refine c_p1 (i := 1) (j := (x1603, ())) w1606 rfl ⟨_, _, rfl, rfl, rfl⟩ hx1609 ?_
      intro u1610 H1611 G1612 w1613 e1614 r1615
      cases r1615
      have w1613 : Wo G H [l] G1612 H1611 [(p1524, cL rS s1535.1), (l, cL rI x1608.2)] := w1613
      obtain ⟨x1616, hx1617, hb1539⟩ := bindS hb1539
      refine c_rr rr_ixS w1613 rfl rfl hx1617 ?_
      intro u1618 H1619 G1620 w1621 e1622 r1623
      cases r1623
      obtain ⟨x1624, hx1625, hb1539⟩ := bindS hb1539
      refine c_rr rr_addS w1621 rfl rfl hx1625 ?_
      intro u1626 H1627 G1628 w1629 e1630 r1631
      cases r1631
      obtain ⟨n1632, hx1633, hb1539⟩ := bindS hb1539
      obtain ⟨xs1634, hx1635, hb1539⟩ := bindS hb1539
      obtain ⟨t1637, hx1638, hb1539⟩ := bindS hb1539
      refine x_forR w1629 (ea_cons (Sim.E.is (e_var (R := rI) (x := x1547) rfl rfl) hx1633) ea_nil) rfl hx1635 (fun i G' H' σ' => ∃ s1639 : Str, ∃ u1640 : Option V, Wo G H [l] G' H' [(p1524, cL rS s1535.1), (l, cL rI x1608.2)] ∧ Evl.Ex G1628 G' ∧ σ' = [some (V.ref l), some (V.int many0), some (V.str signs_1516), some (V.ref p1524), some (V.int x1547), some (V.str s1639), u1640] ∧ forS (m__law_names_b2 s1535) (xs1634.drop i) s1639 = some t1637) ?_ ?_ ?_
      · intro G' H' w' e'
        exact ⟨x1624, (u1538), w', e', rfl, hx1638⟩
      · rintro i1648 x1649 σ' G1644 H1647 hx1650 ⟨s1639, u1640, w1645, e1646, rfl, hm1642⟩
        obtain ⟨q1643, hb1641, hm1642⟩ := forS_at hx1650 hm1642
        refine g_name ?_
        unfold m__law_names_b2 at hb1641
        obtain ⟨s1656, hx1657, hb1641⟩ := bindS hb1641
        refine o_cut (fun σ' H' => ∃ G' : Hp, Wo G H [l] G' H' [(p1524, cL rS s1535.1), (l, cL rI x1608.2)] ∧ Evl.Ex G1644 G' ∧ σ' = [some (V.ref l), some (V.int many0), some (V.str signs_1516), some (V.ref p1524), some (V.int x1547), some (V.str s1656), some (V.int x1649)]) ?_ ?_
        · obtain ⟨b1651, hx1661, hx1657⟩ := bindS hx1657
          refine x_if w1645 (et_T (e_op (rr_inL flS) (e_var (R := rS) (x := s1639) rfl rfl) (e_var (R := (rL rS)) (x := s1535.1) rfl (w1645.rlAt (i := 0) rfl)))) hx1661 ?_ ?_
          · intro hbb1651 H1662 w1663
            subst hbb1651
            have hx1657 := bifT hx1657
            obtain ⟨name_1664, hx1665, hx1657⟩ := bindS hx1657
            refine x_setS w1663 (e_op rr_addS (e_var (R := rS) (x := s1639) rfl rfl) e_str) (by first | (simp only [be1, bs1, ba1] at hx1665 ⊢; exact hx1665) | exact hx1665) ?_
            intro H1666 w1667
            refine x_next ?_
            have hx1657 : name_1664 = s1656 := Option.some.inj hx1657
            subst hx1657
            exact ⟨G1644, w1667, (Evl.Ex.refl _), rfl⟩
          · intro hbb1651 H1668 w1669
            subst hbb1651
            have hx1657 := bifF hx1657
            refine x_next ?_
            have hx1657 : s1639 = s1656 := Option.some.inj hx1657
            subst hx1657
            exact ⟨G1644, w1669, (Evl.Ex.refl _), rfl⟩
        · rintro σ' H1671 ⟨G1670, w1659, e1658, rfl⟩
          refine x_next ?_
          have hb1641 : s1656 = q1643 := Option.some.inj hb1641
          subst hb1641
          exact ⟨G1670, s1656, (some (V.int x1649)), w1659, (e1646.trans e1658), rfl, hm1642⟩
      · rintro σ' G1672 H1675 ⟨s1639, u1640, w1673, e1674, rfl, hm1642⟩
        have hm1642 := forS_end hm1642
        subst hm1642
        obtain ⟨a1677, hx1679, hb1539⟩ := bindS hb1539
        obtain ⟨names_here_1678, hx1680, hb1539⟩ := bindS hb1539
        obtain ⟨hs1681, rfl⟩ := appM_ok hx1680
        refine x_app (j := 0) w1673 rfl hs1681 rfl (e_var (R := rS) (x := s1639) rfl rfl) hx1679 ?_
        intro H1682 G1683 w1684 e1685
        have w1684 : Wo G H [l] G1683 H1682 [(p1524, cL rS (s1535.1 ++ [a1677])), (l, cL rI x1608.2)] := w1684
        refine x_next ?_
        have hb1539 : ((s1535.1 ++ [a1677]), x1608.2) = q1541 := Option.some.inj hb1539
        subst hb1539
        exact ⟨G1683, ((s1535.1 ++ [a1677]), x1608.2), (some (V.int x1547)), (some (V.str s1639)), (u1640), w1684, (((((((((e1544.trans e1565).trans e1573).trans e1587).trans e1595).trans e1614).trans e1622).trans e1630).trans e1674).trans e1685), rfl, hm1540⟩
    · rintro σ' G1686 H1689 ⟨s1535, u1536, u1537, u1538, w1687, e1688, rfl, hm1540⟩
      have hm1540 := forS_end hm1540
      subst hm1540
      obtain ⟨h8, h9⟩ : s1535.1 = r ∧ s1535.2 = k' := Prod.mk.inj (Option.some.inj h)
      subst h8
      subst h9
      refine x_retO (o_var rfl ?_)
      exact k _ _ _ n1526 w1687.f (w1687.sub2 (i := 0) (j := 1) rfl rfl (by decide))
def m_Record___init___C_b1 (x1715 : (Str × Int)) (s1704 : (List Str)) : Option (List Str) :=
  (some (s1704.any fun z => z == x1715.1) >>= fun b1723 => bif b1723 then none else (some x1715.1 >>= fun a1729 => appM s1704 a1729 >>= fun names_1730 => some (names_1730)))
def m_Record___init___C (name0 : Str) (asks0 : (List (Str × Int))) (result0 : Int) : Option m_Record :=
  (some ([]) >>= fun names_1691 => ( forS (m_Record___init___C_b1) asks0 names_1691 >>= fun s1704 => (some name0 >>= fun f1743 => (((some asks0 >>= fun xs1761 => lcS (fun x1752 => some true) (fun x1752 => some (x1752.1, x1752.2)) xs1761) >>= fun t1762 => some t1762) >>= fun f1763 => (some result0 >>= fun f1769 => some (m_Record.mk f1743 f1763 f1769))))))
theorem sc_Record___init___C : FnScope ["self", "name", "asks", "result", "names", "asked", "answer"] ["self", "name", "asks", "result"] (defScope s_Record___init__) := ⟨rfl, rfl, rfl, by decide +kernel, rfl, by decide +kernel, by decide +kernel⟩
theorem ok_Record___init___C (T : Tx K mg) : Fm P w K mg base CX0 1 "Record" "__init__" ["self", "name", "asks", "result"] (PIBs (He.ga K "Record") (aC rS (aC rA (aC rI aN))) (fun i => i.2.1) (rP rS rI) (fl_Record K) (fun ys i => m_Record___init___C i.1 ys i.2.2.1)) := by
  obtain ⟨fd, F⟩ := T.def_ 0 rfl
  have nd := sc_Record___init___C.nd
  refine fm_mk F (fun _ _ _ _ _ _ us hl => match us, hl with | [_, _, _, _], _ => rfl) (F.ok sc_Record___init___C (fun vs H Q E h => ?_) (fun cdv A outer s H vs Q E hr h => ?_))
  · obtain ⟨G, l, ld, _, ⟨name0, lb, result0, ⟨⟩⟩, asks0, r, rfl, wd, ⟨vname0, _, rfl, hname0, vasks0, _, rfl, hasks0, vresult0, _, rfl, hresult0, rfl⟩, L0, h, k⟩ := h
    rfl
  · obtain ⟨G, l, ld, _, ⟨name0, lb, result0, ⟨⟩⟩, asks0, r, rfl, wd, ⟨vname0, _, rfl, hname0, vasks0, _, rfl, hasks0, vresult0, _, rfl, hresult0, rfl⟩, L0, h, k⟩ := h
    cases hname0
    cases hasks0
    cases hresult0
    have w0 : Wo G H [l, ld] G H _ := Wo.startC wd
    have hl : lb ∉ [l, ld] := L0.neS wd
    have h : m_Record___init___C name0 asks0 result0 = some r := h
    unfold m_Record___init___C at h
    refine ⟨_, PSs.nox (pss_cons (ps_set (i := 4) nd rfl (Or.inl rfl) (pe_lst pa_nil)) (pss_cons (ps_for PassesOwn.never rfl (show L2.PI _ _ _ (iList K _) from pi_list (pv 2)) (pg_tup (by rfl) (pgs_cons (pg_name (i := 5) nd rfl (by first | exact Or.inl rfl | exact Or.inr rfl)) (pgs_cons (pg_name (i := 6) nd rfl (by first | exact Or.inl rfl | exact Or.inr rfl)) pgs_nil))) (pss_cons (ps_if (pt_cmpR (r := rIn K false) op_in_seq (pv 5) (pv 4) (by rfl)) (pss_cons ps_never pss_nil) pss_nil) (pss_cons (ps_expr (pe_bm PySem.F.plainAttrs_list PySem.F.slot_list_append PySem.F.type_list_append mt_append (pv 4) (pa_cons (pv 5) pa_nil))) pss_nil))) (pss_cons (SlX.ps_sl (pv 0) (pv 1) (by rfl)) (pss_cons (SlX.ps_sl (pv 0) (pe_callTy (r := rTp K) call_tuple_of (by rfl) (fr_tuple T) (by decide +kernel) (pa_cons (pe_lc (own := [("asked", 5), ("answer", 6)]) (by rfl) nd (show L2.PI _ _ _ (iList K _) from pi_list (pv 2)) (blkOk_by (by kernel_rfl)) (fun _ _ _ _ _ => show L2.PG _ _ (gTup K 2 (gCons (gName 5) (gCons (gName 6) gNil))) from pg_tup (by rfl) (pgs_cons (pg_name (i := 5) nd rfl (by first | exact Or.inl rfl | exact Or.inr rfl)) (pgs_cons (pg_name (i := 6) nd rfl (by first | exact Or.inl rfl | exact Or.inr rfl)) pgs_nil))) (fun _ _ _ _ _ => pts_nil) (fun _ _ _ _ _ => (pe_tup (pa_cons (pv 5) (pa_cons (pv 6) pa_nil))))) pa_nil)) (by rfl)) (pss_cons (SlX.ps_sl (pv 0) (pv 3) (by rfl)) pss_nil))))), ?_⟩
    obtain ⟨names_1691, hx1692, h⟩ := bindS h
    refine x_setL w0 (el_disp (R := rS) eal_nil) hx1692 ?_
    intro p1695 H1693 G1696 n1697 w1694 e1698
    obtain ⟨t1702, hx1703, h⟩ := bindS h
    refine x_forN w1694 L0 hl rfl (fun i G' H' σ' => ∃ s1704 : (List Str), ∃ u1705 : Option V, ∃ u1706 : Option V, Wo G H [l, ld] G' H' [(p1695, cL rS s1704), (l, cN (He.ga K "Record") ld), (ld, cOw l)] ∧ Evl.Ex G1696 G' ∧ σ' = [some (V.ref l), some (V.str name0), some (V.ref lb), some (V.int result0), some (V.ref p1695), u1706, u1705] ∧ forS (m_Record___init___C_b1) (asks0.drop i) s1704 = some t1702) (fun _ _ _ _ ⟨_, _, _, w, _⟩ => ⟨_, w⟩) ?_ ?_ ?_
    · exact ⟨names_1691, (none), (none), w1694, (Evl.Ex.refl _), rfl, hx1703⟩
    · rintro i1714 x1715 v1717 σ' G1710 H1713 hx1716 ⟨s1704, u1705, u1706, w1711, e1712, rfl, hm1708⟩ r1718
      obtain ⟨q1709, hb1707, hm1708⟩ := forS_at hx1716 hm1708
      refine g_pair (i := 5) (j := 6) r1718 w1711.ex ?_
      intro v1719 v1720 r1721 r1722
      cases r1721
      cases r1722
      unfold m_Record___init___C_b1 at hb1707
      obtain ⟨b1723, hx1724, hb1707⟩ := bindS hb1707
      refine x_if w1711 (et_T (e_op (rr_inL flS) (e_var (R := rS) (x := x1715.1) rfl rfl) (e_var (R := (rL rS)) (x := s1704) rfl (w1711.rlAt (i := 0) rfl)))) hx1724 ?_ ?_
      · intro hbb1723 H1725 w1726
        subst hbb1723
        have hb1707 := bifT hb1707
        cases (show none = some _ from hb1707)
      · intro hbb1723 H1727 w1728
        subst hbb1723
        have hb1707 := bifF hb1707
        refine x_next ?_
        obtain ⟨a1729, hx1731, hb1707⟩ := bindS hb1707
        obtain ⟨names_1730, hx1732, hb1707⟩ := bindS hb1707
        obtain ⟨hs1733, rfl⟩ := appM_ok hx1732
        refine x_app (j := 0) w1728 rfl hs1733 rfl (e_var (R := rS) (x := x1715.1) rfl rfl) hx1731 ?_
        intro H1734 G1735 w1736 e1737
        have w1736 : Wo G H [l, ld] G1735 H1734 [(p1695, cL rS (s1704 ++ [a1729])), (l, cN (He.ga K "Record") ld), (ld, cOw l)] := w1736
        refine x_next ?_
        have hb1707 : (s1704 ++ [a1729]) = q1709 := Option.some.inj hb1707
        subst hb1707
        exact ⟨G1735, (s1704 ++ [a1729]), (some (V.int x1715.2)), (some (V.str x1715.1)), w1736, (e1712.trans e1737), rfl, hm1708⟩
    · rintro σ' G1738 H1741 ⟨s1704, u1705, u1706, w1739, e1740, rfl, hm1708⟩
      have hm1708 := forS_end hm1708
      subst hm1708
      obtain ⟨f1743, hx1744, h⟩ := bindS h
      refine x_sl1 (j := 1) (j2 := 2) w1739 rfl rfl rfl (e_var (R := rS) (x := name0) rfl rfl) hx1744 (scl_ok (T.mo 3 rfl)) (slot_ok (T.mo 4 rfl)) (by decide) ?_
      intro H1745 G1746 w1747 e1748
      have w1747 : Wo G H [l, ld] G1746 H1745 [(p1695, cL rS s1704), (l, cSl l (He.ga K "Record") ld [(1, pd rS f1743)]), (ld, cXd)] := w1747
      obtain ⟨f1763, hx1764, h⟩ := bindS h
      refine x_slN (j := 1) (j2 := 2) w1747 rfl rfl rfl (e_cb rc_tupleL (ea_cons (EL.e (el_lc1L (src_lent (n := 2) (w1747.lentOf L0 hl) rfl) (tg_pair (K := K) (R := rS) (S := rI) (i := 5) (j := 6)) (by rintro _ _ _ ⟨_, _, _, _, rfl⟩; rfl) (fun x1752 s1758 G1759 W1760 eG1749 eW1750 eX1751 ⟨v1753, v1754, h1755, h1756, q1757⟩ => by subst q1757; cases h1755; cases h1756; exact et_yes) (fun x1752 s1758 G1759 W1760 eG1749 eW1750 eX1751 ⟨v1753, v1754, h1755, h1756, q1757⟩ => by subst q1757; cases h1755; cases h1756; exact (e_pair (e_var (R := rS) (x := x1752.1) rfl rfl) (e_var (R := rI) (x := x1752.2) rfl rfl))))) ea_nil)) (by first | (simp only [be1, bs1, ba1] at hx1764 ⊢; exact hx1764) | exact hx1764) (scl_ok (T.mo 3 rfl)) (slot_ok (T.mo 5 rfl)) (by decide) (by simp) ?_
      intro H1765 G1766 w1767 e1768
      have w1767 : Wo G H [l, ld] G1766 H1765 [(p1695, cL rS s1704), (l, cSl l (He.ga K "Record") ld [(1, pd rS f1743), (0, pd (rT (rP rS rI)) f1763)]), (ld, cXd)] := w1767
      obtain ⟨f1769, hx1770, h⟩ := bindS h
      refine x_slN (j := 1) (j2 := 2) w1767 rfl rfl rfl (e_var (R := rI) (x := result0) rfl rfl) hx1770 (scl_ok (T.mo 3 rfl)) (slot_ok (T.mo 6 rfl)) (by decide) (by simp) ?_
      intro H1771 G1772 w1773 e1774
      have w1773 : Wo G H [l, ld] G1772 H1771 [(p1695, cL rS s1704), (l, cSl l (He.ga K "Record") ld [(1, pd rS f1743), (0, pd (rT (rP rS rI)) f1763), (2, pd rI f1769)]), (ld, cXd)] := w1773
      refine x_next ?_
      have h : (m_Record.mk f1743 f1763 f1769) = r := Option.some.inj h
      subst h
      exact k _ _ w1773.f (w1773.sub2 (i := 1) (j := 2) rfl rfl (by decide))
def m__law_join_b1 (both_1777 : Int) (x1800 : Int) (s1790 : Int) : Option Int :=
  ((some ((Builtin.bitAnd x1800 both_1777) == both_1777) >>= fun b1808 => bif b1808 then (some (Builtin.bitAnd s1790 x1800) >>= fun best_1821 => some best_1821) else some s1790) >>= fun s1813 => some (s1813))
def m__law_join (masks_here0 : (List Int)) (one0 : Int) (two0 : Int) : Option Int :=
  ((atI masks_here0 one0 >>= fun t1775 => (atI masks_here0 two0 >>= fun t1776 => some (Builtin.bitOr t1775 t1776))) >>= fun both_1777 => (some (31 : Int) >>= fun best_1781 => (some masks_here0 >>= fun xs1785 => forS (m__law_join_b1 both_1777) xs1785 best_1781 >>= fun s1790 => (idxM (fun a b => a == b) masks_here0 s1790 >>= fun a1837 => some a1837))))
theorem sc__law_join : FnScope ["_law_masks_here", "_law_one", "_law_two", "_law_both", "_law_best", "_law_mask"] ["_law_masks_here", "_law_one", "_law_two"] (defScope s__law_join) := ⟨rfl, rfl, rfl, by decide +kernel, rfl, by decide +kernel, by decide +kernel⟩
theorem ok__law_join (T : Tx K mg) : Fk P w K mg base CX0 1 "_law_join" ["_law_masks_here", "_law_one", "_law_two"] (PF (aC (rL rI) (aC rI (aC rI aN))) rI (fun i => m__law_join i.1 i.2.1 i.2.2.1)) := by
  obtain ⟨fd, F⟩ := T.def_ 35 rfl
  have nd := sc__law_join.nd
  refine fk_mk T.toTx (x := "_law_join") (T.glo 35 rfl) F (fun _ _ _ _ _ _ us hl => match us, hl with | [_, _, _], _ => rfl) (F.ok sc__law_join (fun vs H Q E h => ?_) (fun cdv A outer s H vs Q E hr h => ?_))
  · obtain ⟨G, ⟨masks_here0, one0, two0, ⟨⟩⟩, r, e0, ⟨vmasks_here0, _, rfl, hmasks_here0, vone0, _, rfl, hone0, vtwo0, _, rfl, htwo0, rfl⟩, h, k⟩ := h
    rfl
  · obtain ⟨G, ⟨masks_here0, one0, two0, ⟨⟩⟩, r, e0, ⟨vmasks_here0, _, rfl, hmasks_here0, vone0, _, rfl, hone0, vtwo0, _, rfl, htwo0, rfl⟩, h, k⟩ := h
    cases hone0
    cases htwo0
    have w0 := Wo.start e0
    have h : m__law_join masks_here0 one0 two0 = some r := h
    unfold m__law_join at h
    refine ⟨_, PSs.nox (pss_cons (ps_set (i := 3) nd rfl (Or.inl rfl) (pe_op op_or (pe_ix (r := rIxL K) ix_list (pv 0) (pv 1) (fun _ _ => rfl)) (pe_ix (r := rIxL K) ix_list (pv 0) (pv 2) (fun _ _ => rfl)))) (pss_cons (ps_set (i := 4) nd rfl (Or.inl rfl) pe_int) (pss_cons (ps_for PassesOwn.never rfl (pi_list (pv 0)) (pg_name (i := 5) nd rfl (Or.inl rfl)) (Evl.pss_cut (ps_if (pt_cmpR op_eq (pe_op op_and (pv 5) (pv 3)) (pv 3) (nomark _)) (pss_cons (ps_set (i := 4) nd rfl (Or.inl rfl) (pe_op op_and (pv 4) (pv 5))) pss_nil) pss_nil) pss_nil)) (pss_cons (ps_ret (pe_bm PySem.F.plainAttrs_list PySem.F.slot_list_index PySem.F.type_list_index mt_index (pv 0) (pa_cons (pv 4) pa_nil))) pss_nil)))), ?_⟩
    obtain ⟨both_1777, hx1778, h⟩ := bindS h
    refine x_setI w0 (e_op rr_or (e_op rr_ixL (e_var (R := (rL rI)) (x := masks_here0) rfl hmasks_here0) (e_var (R := rI) (x := one0) rfl rfl)) (e_op rr_ixL (e_var (R := (rL rI)) (x := masks_here0) rfl hmasks_here0) (e_var (R := rI) (x := two0) rfl rfl))) (by first | (simp only [be1, bs1, ba1] at hx1778 ⊢; exact hx1778) | exact hx1778) ?_
    intro H1779 w1780
    obtain ⟨best_1781, hx1782, h⟩ := bindS h
    refine x_setI w1780 e_int hx1782 ?_
    intro H1783 w1784
    obtain ⟨xs1785, hx1786, h⟩ := bindS h
    obtain ⟨t1788, hx1789, h⟩ := bindS h
    refine x_forL w1784 (e_var (R := (rL rI)) (x := masks_here0) rfl hmasks_here0) hx1786 (fun i G' H' σ' => ∃ s1790 : Int, ∃ u1791 : Option V, Wo G H [] G' H' [] ∧ Evl.Ex G G' ∧ σ' = [some vmasks_here0, some (V.int one0), some (V.int two0), some (V.int both_1777), some (V.int s1790), u1791] ∧ forS (m__law_join_b1 both_1777) (xs1785.drop i) s1790 = some t1788) (fun _ _ _ _ ⟨_, _, w, _⟩ => w.ex) ?_ ?_ ?_
    · intro G' H' w' e'
      exact ⟨best_1781, (none), w', e', rfl, hx1789⟩
    · rintro G1802 e1803 i1799 x1800 v1804 σ' G1795 H1798 hx1801 e1806 ⟨s1790, u1791, w1796, e1797, rfl, hm1793⟩ r1805
      obtain ⟨q1794, hb1792, hm1793⟩ := forS_at hx1801 hm1793
      have h1807 := Rep.mono _ e1797 hmasks_here0
      refine g_name ?_
      cases r1805
      unfold m__law_join_b1 at hb1792
      obtain ⟨s1813, hx1814, hb1792⟩ := bindS hb1792
      refine o_cut (fun σ' H' => ∃ G' : Hp, Wo G H [] G' H' [] ∧ Evl.Ex G1795 G' ∧ σ' = [some vmasks_here0, some (V.int one0), some (V.int two0), some (V.int both_1777), some (V.int s1813), some (V.int x1800)]) ?_ ?_
      · obtain ⟨b1808, hx1818, hx1814⟩ := bindS hx1814
        refine x_if w1796 (et_T (e_op rr_eqI (e_op rr_and (e_var (R := rI) (x := x1800) rfl rfl) (e_var (R := rI) (x := both_1777) rfl rfl)) (e_var (R := rI) (x := both_1777) rfl rfl))) hx1818 ?_ ?_
        · intro hbb1808 H1819 w1820
          subst hbb1808
          have hx1814 := bifT hx1814
          obtain ⟨best_1821, hx1822, hx1814⟩ := bindS hx1814
          refine x_setI w1820 (e_op rr_and (e_var (R := rI) (x := s1790) rfl rfl) (e_var (R := rI) (x := x1800) rfl rfl)) hx1822 ?_
          intro H1823 w1824
          refine x_next ?_
          have hx1814 : best_1821 = s1813 := Option.some.inj hx1814
          subst hx1814
          exact ⟨G1795, w1824, (Evl.Ex.refl _), rfl⟩
        · intro hbb1808 H1825 w1826
          subst hbb1808
          have hx1814 := bifF hx1814
          refine x_next ?_
          have hx1814 : s1790 = s1813 := Option.some.inj hx1814
          subst hx1814
          exact ⟨G1795, w1826, (Evl.Ex.refl _), rfl⟩
      · rintro σ' H1829 ⟨G1827, w1816, e1815, rfl⟩
        have h1828 := Rep.mono _ e1815 h1807
        refine x_next ?_
        have hb1792 : s1813 = q1794 := Option.some.inj hb1792
        subst hb1792
        exact ⟨G1827, (e1806.trans e1815), s1813, (some (V.int x1800)), w1816, (e1797.trans e1815), rfl, hm1793⟩
    · rintro σ' G1830 H1833 e1834 ⟨s1790, u1791, w1831, e1832, rfl, hm1793⟩
      have hm1793 := forS_end hm1793
      subst hm1793
      have h1836 := Rep.mono _ e1832 hmasks_here0
      obtain ⟨a1837, hx1838, h⟩ := bindS h
      have h : a1837 = r := Option.some.inj h
      subst h
      exact x_ret w1831 (e_bmL (rbm_index flI) (e_var (R := (rL rI)) (x := masks_here0) rfl h1836) (ea_cons (e_var (R := rI) (x := s1790) rfl rfl) ea_nil)) (by first | (simp only [be1, bs1, ba1] at hx1838 ⊢; exact hx1838) | exact hx1838) (fun v9 H9 G9 w9 e9 r9 => k v9 H9 G9 w9.upE r9)
def m__law_meet (masks_here0 : (List Int)) (one0 : Int) (two0 : Int) : Option Int :=
  (((atI masks_here0 one0 >>= fun t1839 => (atI masks_here0 two0 >>= fun t1840 => some (Builtin.bitAnd t1839 t1840))) >>= fun t1841 => idxM (fun a b => a == b) masks_here0 t1841) >>= fun a1842 => some a1842)
theorem sc__law_meet : FnScope ["_law_masks_here", "_law_one", "_law_two"] ["_law_masks_here", "_law_one", "_law_two"] (defScope s__law_meet) := ⟨rfl, rfl, rfl, by decide +kernel, rfl, by decide +kernel, by decide +kernel⟩
theorem ok__law_meet (T : Tx K mg) : Fk P w K mg base CX0 1 "_law_meet" ["_law_masks_here", "_law_one", "_law_two"] (PF (aC (rL rI) (aC rI (aC rI aN))) rI (fun i => m__law_meet i.1 i.2.1 i.2.2.1)) := by
  obtain ⟨fd, F⟩ := T.def_ 36 rfl
  have nd := sc__law_meet.nd
  refine fk_mk T.toTx (x := "_law_meet") (T.glo 36 rfl) F (fun _ _ _ _ _ _ us hl => match us, hl with | [_, _, _], _ => rfl) (F.ok sc__law_meet (fun vs H Q E h => ?_) (fun cdv A outer s H vs Q E hr h => ?_))
  · obtain ⟨G, ⟨masks_here0, one0, two0, ⟨⟩⟩, r, e0, ⟨vmasks_here0, _, rfl, hmasks_here0, vone0, _, rfl, hone0, vtwo0, _, rfl, htwo0, rfl⟩, h, k⟩ := h
    rfl
  · obtain ⟨G, ⟨masks_here0, one0, two0, ⟨⟩⟩, r, e0, ⟨vmasks_here0, _, rfl, hmasks_here0, vone0, _, rfl, hone0, vtwo0, _, rfl, htwo0, rfl⟩, h, k⟩ := h
    cases hone0
    cases htwo0
    have w0 := Wo.start e0
    have h : m__law_meet masks_here0 one0 two0 = some r := h
    unfold m__law_meet at h
    refine ⟨_, PSs.nox (pss_cons (ps_ret (pe_bm PySem.F.plainAttrs_list PySem.F.slot_list_index PySem.F.type_list_index mt_index (pv 0) (pa_cons (pe_op op_and (pe_ix (r := rIxL K) ix_list (pv 0) (pv 1) (fun _ _ => rfl)) (pe_ix (r := rIxL K) ix_list (pv 0) (pv 2) (fun _ _ => rfl))) pa_nil))) pss_nil), ?_⟩
    obtain ⟨a1842, hx1843, h⟩ := bindS h
    have h : a1842 = r := Option.some.inj h
    subst h
    exact x_ret w0 (e_bmL (rbm_index flI) (e_var (R := (rL rI)) (x := masks_here0) rfl hmasks_here0) (ea_cons (e_op rr_and (e_op rr_ixL (e_var (R := (rL rI)) (x := masks_here0) rfl hmasks_here0) (e_var (R := rI) (x := one0) rfl rfl)) (e_op rr_ixL (e_var (R := (rL rI)) (x := masks_here0) rfl hmasks_here0) (e_var (R := rI) (x := two0) rfl rfl))) ea_nil)) (by first | (simp only [be1, bs1, ba1] at hx1843 ⊢; exact hx1843) | exact hx1843) (fun v9 H9 G9 w9 e9 r9 => k v9 H9 G9 w9.upE r9)
def m__law_look_b1 (name0 : Str) (asks0 : (List (Str × Int))) (x1859 : (Str × Int)) (s1849 : Unit) : Option (Stp Unit (Int × (List (Str × Int)))) :=
  (some (decide (x1859.1 = name0)) >>= fun b1864 => bif b1864 then (some x1859.2 >>= fun a1869 => some (Stp.rt (a1869, asks0))) else some (Stp.nx ()))
def m__law_look (asks0 : (List (Str × Int))) (table0 : (List (Str × Int))) (name0 : Str) : Option (Int × (List (Str × Int))) :=
  ( forL (m__law_look_b1 name0 asks0) asks0 () >>= Sum.elim (fun s1849 => ((lookM table0 name0 >>= fun t1880 => some (name0, t1880)) >>= fun a1881 => appM asks0 a1881 >>= fun asks_1882 => (lookM table0 name0 >>= fun a1891 => some (a1891, asks_1882)))) (fun r => some r))
theorem sc__law_look : FnScope ["_law_asks", "_law_table", "_law_name", "_law_pair"] ["_law_asks", "_law_table", "_law_name"] (defScope s__law_look) := ⟨rfl, rfl, rfl, by decide +kernel, rfl, by decide +kernel, by decide +kernel⟩
theorem ok__law_look (T : Tx K mg) : Fk P w K mg base CX0 1 "_law_look" ["_law_asks", "_law_table", "_law_name"] (P1 (aC (rM Sum.inr rI) (aC rS aN)) (rP rS rI) rI (fun ys i => m__law_look ys i.1 i.2.1)) := by
  obtain ⟨fd, F⟩ := T.def_ 39 rfl
  have nd := sc__law_look.nd
  refine fk_mk T.toTx (x := "_law_look") (T.glo 39 rfl) F (fun _ _ _ _ _ _ us hl => match us, hl with | [_, _, _], _ => rfl) (F.ok sc__law_look (fun vs H Q E h => ?_) (fun cdv A outer s H vs Q E hr h => ?_))
  · obtain ⟨G, ⟨l, ⟨table0, name0, ⟨⟩⟩⟩, asks0, r, k', ⟨_, _, rfl, rfl, ⟨vtable0, _, rfl, htable0, vname0, _, rfl, hname0, rfl⟩⟩, wd, h, k⟩ := h
    rfl
  · obtain ⟨G, ⟨l, ⟨table0, name0, ⟨⟩⟩⟩, asks0, r, k', ⟨_, _, rfl, rfl, ⟨vtable0, _, rfl, htable0, vname0, _, rfl, hname0, rfl⟩⟩, wd, h, k⟩ := h
    cases hname0
    have e0 : Evl.Ex G H := wd.ex
    have w0 : Wo G H [l] G H _ := Wo.startC wd
    have h : m__law_look asks0 table0 name0 = some (r, k') := h
    unfold m__law_look at h
    refine ⟨_, PSs.nox (pss_cons (ps_for PassesOwn.never rfl (show L2.PI _ _ _ (iList K _) from pi_list (pv 0)) (pg_name (i := 3) nd rfl (Or.inl rfl)) (pss_cons (ps_if (pt_cmpR op_eq (pe_ix (r := rIxT K) ix_tup (pv 3) pe_int (fun _ _ => rfl)) (pv 2) (nomark _)) (pss_cons (ps_ret (pe_ix (r := rIxT K) ix_tup (pv 3) pe_int (fun _ _ => rfl))) pss_nil) pss_nil) pss_nil)) (pss_cons (ps_expr (pe_bm PySem.F.plainAttrs_list PySem.F.slot_list_append PySem.F.type_list_append mt_append (pv 0) (pa_cons (pe_tup (pa_cons (pv 2) (pa_cons (pe_dget (hu_of hr) (pv 1) (pv 2) (fun _ _ => rfl)) pa_nil))) pa_nil))) (pss_cons (ps_ret (pe_dget (hu_of hr) (pv 1) (pv 2) (fun _ _ => rfl))) pss_nil))), ?_⟩
    obtain ⟨vs1844, w1845⟩ := w0.fixAt (j := 0) rfl
    have w1845 : Wo G H [l] G H [(l, cF vs1844 (rP rS rI) asks0)] := w1845
    obtain ⟨t1847, hx1848, h⟩ := bindS h
    refine x_forC w1845 (j := 0) rfl rfl (fun i G' H' σ' => ∃ s1849 : Unit, ∃ u1850 : Option V, Wo G H [l] G' H' [(l, cF vs1844 (rP rS rI) asks0)] ∧ Evl.Ex G G' ∧ σ' = [some (V.ref l), some vtable0, some (V.str name0), u1850] ∧ forL (m__law_look_b1 name0 asks0) (asks0.drop i) s1849 = some t1847) (fun _ _ _ _ ⟨_, _, w, _⟩ => ⟨_, w, rfl⟩) ?_ ?_ ?_
    · exact ⟨(), (none), w1845, (Evl.Ex.refl _), rfl, hx1848⟩
    · rintro i1858 x1859 v1861 σ' G1854 H1857 hx1860 ⟨s1849, u1850, w1855, e1856, rfl, hm1852⟩ r1862
      obtain ⟨q1853, hb1851, hm1852⟩ := forL_at hx1860 hm1852
      have h1863 := Rep.mono _ e1856 htable0
      refine g_name ?_
      unfold m__law_look_b1 at hb1851
      obtain ⟨b1864, hx1865, hb1851⟩ := bindS hb1851
      refine x_if w1855 (et_T (e_op rr_eqS (e_fst (e_var (R := (rP rS rI)) (x := x1859) rfl (Rep.mono _ w1855.ex r1862))) (e_var (R := rS) (x := name0) rfl rfl))) hx1865 ?_ ?_
      · intro hbb1864 H1866 w1867
        subst hbb1864
        have hb1851 := bifT hb1851
        have w1868 := w1867.unfixAt (j := 0) rfl
        have w1868 : Wo G H [l] G1854 H1866 [(l, cL (rP rS rI) asks0)] := w1868
        obtain ⟨a1869, hx1870, hb1851⟩ := bindS hb1851
        have hb1851 : some (Stp.rt (a1869, asks0)) = some q1853 := hb1851
        cases hb1851
        have hm1852 : some (Sum.inr (a1869, asks0)) = some t1847 := hm1852
        cases hm1852
        obtain ⟨h8, h9⟩ : a1869 = r ∧ asks0 = k' := Prod.mk.inj (Option.some.inj h)
        subst h8
        subst h9
        exact x_ret w1868 (e_snd (e_var (R := (rP rS rI)) (x := x1859) rfl r1862)) hx1870 (fun v9 H9 G9 w9 e9 r9 => k v9 H9 G9 w9.f (w9.sub1 (i := 0) rfl) r9)
      · intro hbb1864 H1871 w1872
        subst hbb1864
        have hb1851 := bifF hb1851
        refine x_next ?_
        refine x_next ?_
        have hb1851 : Stp.nx () = q1853 := Option.some.inj hb1851
        subst hb1851
        exact ⟨G1854, (), (some v1861), w1872, e1856, rfl, hm1852⟩
    · rintro σ' G1873 H1876 ⟨s1849, u1850, w1874, e1875, rfl, hm1852⟩
      have hm1852 := forL_end hm1852
      subst hm1852
      have h := elimL h
      have h1878 := Rep.mono _ e1875 htable0
      have w1879 := w1874.unfixAt (j := 0) rfl
      have w1879 : Wo G H [l] G1873 H1876 [(l, cL (rP rS rI) asks0)] := w1879
      obtain ⟨a1881, hx1883, h⟩ := bindS h
      obtain ⟨asks_1882, hx1884, h⟩ := bindS h
      obtain ⟨hs1885, rfl⟩ := appM_ok hx1884
      refine x_app (j := 0) w1879 rfl hs1885 rfl (e_pair (e_var (R := rS) (x := name0) rfl rfl) (e_dget kyS injS (e_var (R := (rM Sum.inr rI)) (x := table0) rfl h1878) (e_var (R := rS) (x := name0) rfl rfl))) (by first | (simp only [be1, bs1, ba1] at hx1883 ⊢; exact hx1883) | exact hx1883) ?_
      intro H1886 G1887 w1888 e1889
      have h1890 := Rep.mono _ e1889 h1878
      have w1888 : Wo G H [l] G1887 H1886 [(l, cL (rP rS rI) (asks0 ++ [a1881]))] := w1888
      obtain ⟨a1891, hx1892, h⟩ := bindS h
      obtain ⟨h8, h9⟩ : a1891 = r ∧ (asks0 ++ [a1881]) = k' := Prod.mk.inj (Option.some.inj h)
      subst h8
      subst h9
      exact x_ret w1888 (e_dget kyS injS (e_var (R := (rM Sum.inr rI)) (x := table0) rfl h1890) (e_var (R := rS) (x := name0) rfl rfl)) (by first | (simp only [be1, bs1, ba1] at hx1892 ⊢; exact hx1892) | exact hx1892) (fun v9 H9 G9 w9 e9 r9 => k v9 H9 G9 w9.f (w9.sub1 (i := 0) rfl) r9)
def m__law_stop {κ : Type} (ask0 : (κ → Str → Option ((Xn ⊕ Int) × κ))) (s0 : κ) : Option ((Xn ⊕ Int) × κ) :=
  (some ("stranger10" : Str) >>= fun a1893 => some ((Sum.inl ⟨"NotDue", [("name", .str a1893)]⟩ : Xn ⊕ Int), s0))
theorem sc__law_stop : FnScope ["_law_ask"] ["_law_ask"] (defScope s__law_stop) := ⟨rfl, rfl, rfl, by decide +kernel, rfl, by decide +kernel, by decide +kernel⟩
theorem ok__law_stop {n : Nat} (T : Tx K mg) : Fk P w K mg base (L2.CX P w) (n + 3) "_law_stop" ["_law_ask"] (PKx P w K mg base n aN rI (fun ask i s => m__law_stop ask  s)) := by
  obtain ⟨fI_NotDue, b_NotDue, F_NotDue⟩ := okx_NotDue (w := w) (base := base) T
  have Y_NotDue := known_NotDue T
  have g_NotDue := T.glo 10 rfl
  obtain ⟨fd, F⟩ := T.def_ 43 rfl
  have nd := sc__law_stop.nd
  refine fk_mk T.toTx (x := "_law_stop") (T.glo 43 rfl) F (fun _ _ _ _ _ _ us hl => match us, hl with | [_], _ => rfl) (F.ok sc__law_stop (fun vs H Q E h => ?_) (fun cdv A outer s H vs Q E hr h => ?_))
  · obtain ⟨κ, ci, ask0, G, ws0, fk, ⟨⟩, s0, r, k', rfl, rfl, A0, wd, h, kx, k⟩ := h
    rfl
  · obtain ⟨κ, ci, ask0, G, ws0, fk, ⟨⟩, s0, r, k', rfl, rfl, A0, wd, h, kx, k⟩ := h
    have w0 : Wo G H (List.map (fun c => c.1) (ci s0)) G H _ := Wo.startC wd
    have h : m__law_stop ask0 s0 = some (r, k') := h
    unfold m__law_stop at h
    have tk := takes_of (X := cxOf (L2.CX P w) P w K mg base ["_law_ask"] "_law_stop" (defScope s__law_stop) (He.fAd K ("_law_stop", none)) cdv A outer s H E) rfl rfl rfl (E := E) rfl
    refine ⟨_, (pss_cons (ps_raise rfl tk (pmk_oex Y_NotDue.oex Y_NotDue.ini Y_NotDue.ty F_NotDue (hr.mono (by omega)) b_NotDue .nil pass0 rfl g_NotDue (pa_cons pe_str pa_nil))) pss_nil), ?_⟩
    obtain ⟨a1893, hx1894, h⟩ := bindS h
    obtain ⟨h8, h9⟩ : (Sum.inl ⟨"NotDue", [("name", .str a1893)]⟩ : Xn ⊕ Int) = r ∧ s0 = k' := Prod.mk.inj (Option.some.inj h)
    subst h8
    subst h9
    refine x_raise (A := (aC rS aN)) (i := (a1893, ())) w0 (ea_cons e_str ea_nil) (by first | (simp only [hx1894, Option.bind_eq_bind, Option.bind_some]) | (cases hx1894; rfl)) (fun G9 vs9 r9 => by obtain ⟨u0, _, rfl, q0, rfl⟩ := r9; exact ⟨rfl, by simp⟩) ?_
    intro vs9 H9 G9 d9 w9 r9 e9 hd9
    obtain ⟨u0, _, rfl, q0, rfl⟩ := r9
    exact kx _ rfl d9 H9 G9 w9.f (w9.w.dropN 0) (Xat_mk (names := ["name"]) (xs := [.str a1893]) (by decide) hd9 (.cons q0 .nil))
def m_Order__require_X_b1 (self0 : m_Order) (x1910 : Int) (s1900 : Unit) : Option (Stp Unit (Xn ⊕ Unit)) :=
  (some ((decide (x1910 < (0 : Int))) || (decide ((self0.f_members.length : Int) ≤ x1910))) >>= fun b1918 => bif b1918 then (some x1910 >>= fun a1922 => some (Stp.rt (Sum.inl ⟨"NotElement", [("value", .int a1922)]⟩ : Xn ⊕ Unit))) else some (Stp.nx ()))
def m_Order__require_X (self0 : m_Order) (first0 : Int) (second0 : Int) : Option (Xn ⊕ Unit) :=
  (some ([first0, second0]) >>= fun xs1895 => forL (m_Order__require_X_b1 self0) xs1895 () >>= Sum.elim (fun s1900 => some (Sum.inr () : Xn ⊕ Unit)) (fun r => some r))
theorem sc_Order__require_X : FnScope ["self", "first", "second", "value"] ["self", "first", "second"] (defScope s_Order__require) := ⟨rfl, rfl, rfl, by decide +kernel, rfl, by decide +kernel, by decide +kernel⟩
theorem ok_Order__require_X (T : Tx K mg) : Fm P w K mg base (L2.CX P w) 3 "Order" "_require" ["self", "first", "second"] (PX K (aC (r_Order K) (aC rI (aC rI aN))) rU (fun i => m_Order__require_X i.1 i.2.1 i.2.2.1)) := by
  obtain ⟨fI_NotElement, b_NotElement, F_NotElement⟩ := okx_NotElement (w := w) (base := base) T
  have Y_NotElement := known_NotElement T
  have g_NotElement := T.glo 3 rfl
  obtain ⟨fd, F⟩ := T.def_ 14 rfl
  have nd := sc_Order__require_X.nd
  refine fm_mk F (fun _ _ _ _ _ _ us hl => match us, hl with | [_, _, _], _ => rfl) (F.ok sc_Order__require_X (fun vs H Q E h => ?_) (fun cdv A outer s H vs Q E hr h => ?_))
  · obtain ⟨G, ⟨self0, first0, second0, ⟨⟩⟩, r, e0, ⟨vself0, _, rfl, hself0, vfirst0, _, rfl, hfirst0, vsecond0, _, rfl, hsecond0, rfl⟩, h, kx, k⟩ := h
    rfl
  · obtain ⟨G, ⟨self0, first0, second0, ⟨⟩⟩, r, e0, ⟨vself0, _, rfl, hself0, vfirst0, _, rfl, hfirst0, vsecond0, _, rfl, hsecond0, rfl⟩, h, kx, k⟩ := h
    cases hfirst0
    cases hsecond0
    have w0 := Wo.start e0
    have h : m_Order__require_X self0 first0 second0 = some r := h
    unfold m_Order__require_X at h
    have tk := takes_of (X := cxOf (L2.CX P w) P w K mg base ["self", "first", "second", "value"] "Order._require" (defScope s_Order__require) (He.fAd K ("Order", some "_require")) cdv A outer s H E) rfl rfl rfl (E := E) rfl
    refine ⟨_, (pss_cons (ps_for (passes_of rfl) rfl (pi_tup (pe_tup (pa_cons (pv 1) (pa_cons (pv 2) pa_nil)))) (pg_name (i := 3) nd rfl (Or.inl rfl)) (pss_cons (ps_if (PW.pt (pw_or (pt_cmpR op_lt (pv 3) pe_int (nomark _)) (pw_or1 (pt_cmpR op_ge (pv 3) (pe_callB (r := rLn K) call_len_seq (by rfl) (fr_len T) (by decide +kernel) (pa_cons (show L2.PE _ _ (tFld K _ _) from pe_fld (pv 0) (by rfl)) pa_nil)) (nomark _))))) (pss_cons (ps_raise rfl tk (pmk_oex Y_NotElement.oex Y_NotElement.ini Y_NotElement.ty F_NotElement (hr.mono (by decide)) b_NotElement .nil pass0 rfl g_NotElement (pa_cons (pv 3) pa_nil))) pss_nil) pss_nil) pss_nil)) pss_nil), ?_⟩
    obtain ⟨xs1895, hx1896, h⟩ := bindS h
    obtain ⟨t1898, hx1899, h⟩ := bindS h
    refine x_forT w0 (e_tupH (eal_cons (e_var (R := rI) (x := first0) rfl rfl) (eal_cons (e_var (R := rI) (x := second0) rfl rfl) eal_nil))) hx1896 (fun i G' H' σ' => ∃ s1900 : Unit, ∃ u1901 : Option V, Wo G H [] G' H' [] ∧ Evl.Ex G G' ∧ σ' = [some vself0, some (V.int first0), some (V.int second0), u1901] ∧ forL (m_Order__require_X_b1 self0) (xs1895.drop i) s1900 = some t1898) (fun _ _ _ _ ⟨_, _, w, _⟩ => w.ex) ?_ ?_ ?_
    · intro G' H' w' e'
      exact ⟨(), (none), w', e', rfl, hx1899⟩
    · rintro G1912 e1913 i1909 x1910 v1914 σ' G1905 H1908 hx1911 e1916 ⟨s1900, u1901, w1906, e1907, rfl, hm1903⟩ r1915
      obtain ⟨q1904, hb1902, hm1903⟩ := forL_at hx1911 hm1903
      have h1917 := Rep.mono _ e1907 hself0
      refine g_name ?_
      cases r1915
      unfold m_Order__require_X_b1 at hb1902
      obtain ⟨b1918, hx1919, hb1902⟩ := bindS hb1902
      refine x_if w1906 (et_orP (et_T (e_op rr_lt (e_var (R := rI) (x := x1910) rfl rfl) e_int)) (et_T (e_op rr_ge (e_var (R := rI) (x := x1910) rfl rfl) (e_cb rc_lenL (ea_cons (e_fld 3 (fun (o : m_Order) => o.f_members) (e_var (R := (r_Order K)) (x := self0) rfl (Rep.mono _ w1906.ex h1917)) (T.cls 60 rfl) (T.noat 64 rfl) (by decide +kernel) (fun _ => rfl)) ea_nil))))) hx1919 ?_ ?_
      · intro hbb1918 H1920 w1921
        subst hbb1918
        have hb1902 := bifT hb1902
        obtain ⟨a1922, hx1923, hb1902⟩ := bindS hb1902
        have hb1902 : some (Stp.rt (Sum.inl ⟨"NotElement", [("value", .int a1922)]⟩ : Xn ⊕ Unit)) = some q1904 := hb1902
        cases hb1902
        have hm1903 : some (Sum.inr (Sum.inl ⟨"NotElement", [("value", .int a1922)]⟩ : Xn ⊕ Unit)) = some t1898 := hm1903
        cases hm1903
        have h : (Sum.inl ⟨"NotElement", [("value", .int a1922)]⟩ : Xn ⊕ Unit) = r := Option.some.inj h
        subst h
        refine x_raise (A := (aC rI aN)) (i := (a1922, ())) w1921 (ea_cons (e_var (R := rI) (x := x1910) rfl rfl) ea_nil) (by first | (simp only [hx1923, Option.bind_eq_bind, Option.bind_some]) | (cases hx1923; rfl)) (fun G9 vs9 r9 => by obtain ⟨u0, _, rfl, q0, rfl⟩ := r9; exact ⟨rfl, by simp⟩) ?_
        intro vs9 H9 G9 d9 w9 r9 e9 hd9
        obtain ⟨u0, _, rfl, q0, rfl⟩ := r9
        exact kx _ rfl d9 H9 G9 w9.upE (Xat_mk (names := ["value"]) (xs := [.int a1922]) (by decide) hd9 (.cons q0 .nil))
      · intro hbb1918 H1924 w1925
        subst hbb1918
        have hb1902 := bifF hb1902
        refine x_next ?_
        refine x_next ?_
        have hb1902 : Stp.nx () = q1904 := Option.some.inj hb1902
        subst hb1902
        exact ⟨G1905, (e1916.trans (Evl.Ex.refl _)), (), (some (V.int x1910)), w1925, e1907, rfl, hm1903⟩
    · rintro σ' G1926 H1929 e1930 ⟨s1900, u1901, w1927, e1928, rfl, hm1903⟩
      have hm1903 := forL_end hm1903
      subst hm1903
      have h := elimL h
      have h1932 := Rep.mono _ e1928 hself0
      refine x_next ?_
      have h : (Sum.inr () : Xn ⊕ Unit) = r := Option.some.inj h
      subst h
      exact k _ rfl _ _ _ w1927.upE rfl
def m_Order_join_of_X (self0 : m_Order) (first0 : Int) (second0 : Int) : Option (Xn ⊕ Int) :=
  (m_Order__require_X self0 first0 second0 >>= fun r1933 => Sum.elim (fun e1935 => some (Sum.inl e1935 : Xn ⊕ Int)) (fun x1944 => (((atI self0.f_joins first0 >>= fun t1951 => atI t1951 second0) >>= fun t1952 => t1952) >>= fun a1953 => some (Sum.inr a1953 : Xn ⊕ Int))) r1933)
theorem sc_Order_join_of_X : FnScope ["self", "first", "second"] ["self", "first", "second"] (defScope s_Order_join_of) := ⟨rfl, rfl, rfl, by decide +kernel, rfl, by decide +kernel, by decide +kernel⟩
theorem ok_Order_join_of_X (T : Tx K mg) : Fm P w K mg base (L2.CX P w) 4 "Order" "join_of" ["self", "first", "second"] (PX K (aC (r_Order K) (aC rI (aC rI aN))) rI (fun i => m_Order_join_of_X i.1 i.2.1 i.2.2.1)) := by
  obtain ⟨fd_Order__require_X, G_Order__require_X, b_Order__require_X⟩ := ok_Order__require_X (w := w) (base := base) T
  obtain ⟨fd, F⟩ := T.def_ 16 rfl
  have nd := sc_Order_join_of_X.nd
  refine fm_mk F (fun _ _ _ _ _ _ us hl => match us, hl with | [_, _, _], _ => rfl) (F.ok sc_Order_join_of_X (fun vs H Q E h => ?_) (fun cdv A outer s H vs Q E hr h => ?_))
  · obtain ⟨G, ⟨self0, first0, second0, ⟨⟩⟩, r, e0, ⟨vself0, _, rfl, hself0, vfirst0, _, rfl, hfirst0, vsecond0, _, rfl, hsecond0, rfl⟩, h, kx, k⟩ := h
    rfl
  · obtain ⟨G, ⟨self0, first0, second0, ⟨⟩⟩, r, e0, ⟨vself0, _, rfl, hself0, vfirst0, _, rfl, hfirst0, vsecond0, _, rfl, hsecond0, rfl⟩, h, kx, k⟩ := h
    cases hfirst0
    cases hsecond0
    have w0 := Wo.start e0
    have h : m_Order_join_of_X self0 first0 second0 = some r := h
    unfold m_Order_join_of_X at h
    have tk := takes_of (X := cxOf (L2.CX P w) P w K mg base ["self", "first", "second"] "Order.join_of" (defScope s_Order_join_of) (He.fAd K ("Order", some "join_of")) cdv A outer s H E) rfl rfl rfl (E := E) rfl
    refine ⟨_, (pss_cons (ps_expr (pe_methT (pv 0) (T.cls 60 rfl) (T.meth 66 rfl) G_Order__require_X (hr.mono (by decide)) b_Order__require_X (passAt tk) (pa_cons (pv 1) (pa_cons (pv 2) pa_nil)))) (pss_cons (ps_ret (pe_ix (r := rIxL K) ix_list (pe_ix (r := rIxL K) ix_list (pe_fld (pv 0) rfl) (pv 1) (fun _ _ => rfl)) (pv 2) (fun _ _ => rfl))) pss_nil)), ?_⟩
    obtain ⟨r1933, hx1934, h⟩ := bindS h
    refine x_callX w0 (ex_meth (e_var (R := (r_Order K)) (x := self0) rfl hself0) (ea_cons (e_var (R := rI) (x := first0) rfl rfl) (ea_cons (e_var (R := rI) (x := second0) rfl rfl) ea_nil)) (by decide +kernel)) (by first | (simp only [be1, bs1, ba1] at hx1934 ⊢; exact hx1934) | exact hx1934) ?_ ?_
    · intro e1935 he1936 d1937 H1938 G1939 w1940 e1941 xa1942
      subst he1936
      have h := sumL h
      have h1943 := Rep.mono _ e1941 hself0
      have h : (Sum.inl e1935 : Xn ⊕ Int) = r := Option.some.inj h
      subst h
      exact kx _ rfl d1937 H1938 G1939 w1940.upE xa1942
    · intro x1944 he1945 H1946 G1947 w1948 e1949
      subst he1945
      have h := sumR h
      have h1950 := Rep.mono _ e1949 hself0
      obtain ⟨a1953, hx1954, h⟩ := bindS h
      have h : (Sum.inr a1953 : Xn ⊕ Int) = r := Option.some.inj h
      subst h
      exact x_ret w1948 (e_get (e_op rr_ixL (e_op rr_ixL (e_fld 1 (fun (o : m_Order) => o.f_joins) (e_var (R := (r_Order K)) (x := self0) rfl h1950) (T.cls 60 rfl) (T.noat 62 rfl) (by decide +kernel) (fun _ => rfl)) (e_var (R := rI) (x := first0) rfl rfl)) (e_var (R := rI) (x := second0) rfl rfl))) (by first | (simp only [be1, bs1, ba1] at hx1954 ⊢; exact hx1954) | exact hx1954) (fun v9 H9 G9 w9 e9 r9 => k _ rfl v9 H9 G9 w9.upE r9)
def m_Order_meet_of_X (self0 : m_Order) (first0 : Int) (second0 : Int) : Option (Xn ⊕ Int) :=
  (m_Order__require_X self0 first0 second0 >>= fun r1955 => Sum.elim (fun e1957 => some (Sum.inl e1957 : Xn ⊕ Int)) (fun x1966 => (((atI self0.f_meets first0 >>= fun t1973 => atI t1973 second0) >>= fun t1974 => t1974) >>= fun a1975 => some (Sum.inr a1975 : Xn ⊕ Int))) r1955)
theorem sc_Order_meet_of_X : FnScope ["self", "first", "second"] ["self", "first", "second"] (defScope s_Order_meet_of) := ⟨rfl, rfl, rfl, by decide +kernel, rfl, by decide +kernel, by decide +kernel⟩
theorem ok_Order_meet_of_X (T : Tx K mg) : Fm P w K mg base (L2.CX P w) 4 "Order" "meet_of" ["self", "first", "second"] (PX K (aC (r_Order K) (aC rI (aC rI aN))) rI (fun i => m_Order_meet_of_X i.1 i.2.1 i.2.2.1)) := by
  obtain ⟨fd_Order__require_X, G_Order__require_X, b_Order__require_X⟩ := ok_Order__require_X (w := w) (base := base) T
  obtain ⟨fd, F⟩ := T.def_ 17 rfl
  have nd := sc_Order_meet_of_X.nd
  refine fm_mk F (fun _ _ _ _ _ _ us hl => match us, hl with | [_, _, _], _ => rfl) (F.ok sc_Order_meet_of_X (fun vs H Q E h => ?_) (fun cdv A outer s H vs Q E hr h => ?_))
  · obtain ⟨G, ⟨self0, first0, second0, ⟨⟩⟩, r, e0, ⟨vself0, _, rfl, hself0, vfirst0, _, rfl, hfirst0, vsecond0, _, rfl, hsecond0, rfl⟩, h, kx, k⟩ := h
    rfl
  · obtain ⟨G, ⟨self0, first0, second0, ⟨⟩⟩, r, e0, ⟨vself0, _, rfl, hself0, vfirst0, _, rfl, hfirst0, vsecond0, _, rfl, hsecond0, rfl⟩, h, kx, k⟩ := h
    cases hfirst0
    cases hsecond0
    have w0 := Wo.start e0
    have h : m_Order_meet_of_X self0 first0 second0 = some r := h
    unfold m_Order_meet_of_X at h
    have tk := takes_of (X := cxOf (L2.CX P w) P w K mg base ["self", "first", "second"] "Order.meet_of" (defScope s_Order_meet_of) (He.fAd K ("Order", some "meet_of")) cdv A outer s H E) rfl rfl rfl (E := E) rfl
    refine ⟨_, (pss_cons (ps_expr (pe_methT (pv 0) (T.cls 60 rfl) (T.meth 66 rfl) G_Order__require_X (hr.mono (by decide)) b_Order__require_X (passAt tk) (pa_cons (pv 1) (pa_cons (pv 2) pa_nil)))) (pss_cons (ps_ret (pe_ix (r := rIxL K) ix_list (pe_ix (r := rIxL K) ix_list (pe_fld (pv 0) rfl) (pv 1) (fun _ _ => rfl)) (pv 2) (fun _ _ => rfl))) pss_nil)), ?_⟩
    obtain ⟨r1955, hx1956, h⟩ := bindS h
    refine x_callX w0 (ex_meth (e_var (R := (r_Order K)) (x := self0) rfl hself0) (ea_cons (e_var (R := rI) (x := first0) rfl rfl) (ea_cons (e_var (R := rI) (x := second0) rfl rfl) ea_nil)) (by decide +kernel)) (by first | (simp only [be1, bs1, ba1] at hx1956 ⊢; exact hx1956) | exact hx1956) ?_ ?_
    · intro e1957 he1958 d1959 H1960 G1961 w1962 e1963 xa1964
      subst he1958
      have h := sumL h
      have h1965 := Rep.mono _ e1963 hself0
      have h : (Sum.inl e1957 : Xn ⊕ Int) = r := Option.some.inj h
      subst h
      exact kx _ rfl d1959 H1960 G1961 w1962.upE xa1964
    · intro x1966 he1967 H1968 G1969 w1970 e1971
      subst he1967
      have h := sumR h
      have h1972 := Rep.mono _ e1971 hself0
      obtain ⟨a1975, hx1976, h⟩ := bindS h
      have h : (Sum.inr a1975 : Xn ⊕ Int) = r := Option.some.inj h
      subst h
      exact x_ret w1970 (e_get (e_op rr_ixL (e_op rr_ixL (e_fld 2 (fun (o : m_Order) => o.f_meets) (e_var (R := (r_Order K)) (x := self0) rfl h1972) (T.cls 60 rfl) (T.noat 63 rfl) (by decide +kernel) (fun _ => rfl)) (e_var (R := rI) (x := first0) rfl rfl)) (e_var (R := rI) (x := second0) rfl rfl))) (by first | (simp only [be1, bs1, ba1] at hx1976 ⊢; exact hx1976) | exact hx1976) (fun v9 H9 G9 w9 e9 r9 => k _ rfl v9 H9 G9 w9.upE r9)
inductive Sd where
  | tell (v : Int)
  | copy (nm : Str)
  | gate (nm : Str) (at_ : Int) (t : Sd)
  | join (a b : Sd)
  | meet (a b : Sd)
  | fnCopying (nm : Str)
  | fnStop 
def levSd : Sd → Nat
  | .tell _ => 15
  | .copy _ => 15
  | .gate _ _ t => levSd t + 5
  | .join a b => max (levSd a) (levSd b) + 5
  | .meet a b => max (levSd a) (levSd b) + 5
  | .fnCopying nm => 20
  | .fnStop  => 20
theorem lev_ge : ∀ t : Sd, 15 ≤ levSd t
  | .tell _ => Nat.le_refl _
  | .copy _ => Nat.le_refl _
  | .gate _ _ t => by have := lev_ge t; show 15 ≤ levSd t + 5; omega
  | .join a b => by have := lev_ge a; show 15 ≤ max (levSd a) (levSd b) + 5; omega
  | .meet a b => by have := lev_ge a; show 15 ≤ max (levSd a) (levSd b) + 5; omega
  | .fnCopying nm => by show 15 ≤ 20; omega
  | .fnStop  => by show 15 ≤ 20; omega
def runSd {κ : Type} (ask : κ → Str → Option ((Xn ⊕ Int) × κ)) (o : m_Order) : Sd → κ → Option ((Xn ⊕ Int) × κ)
  | .tell v, s => some (Sum.inr v, s)
  | .copy nm, s => ask s nm >>= fun x => Sum.elim (fun e => some (Sum.inl e, x.2)) (fun v => some (Sum.inr v, x.2)) x.1
  | .gate nm at_ t, s => ask s nm >>= fun x => Sum.elim (fun e => some (Sum.inl e, x.2)) (fun v => m_Order_below o at_ v >>= fun b => bif b then (runSd ask o t x.2 >>= fun y => Sum.elim (fun e => some (Sum.inl e, y.2)) (fun u => some (Sum.inr u, y.2)) y.1) else (m_Order_least o >>= fun l => some (Sum.inr l, x.2))) x.1
  | .join a b, s => runSd ask o a s >>= fun x => Sum.elim (fun e => some (Sum.inl e, x.2)) (fun v => (m_Order_greatest o >>= fun l => some (v == l)) >>= fun c => bif c then some (Sum.inr v, x.2) else (runSd ask o b x.2 >>= fun y => Sum.elim (fun e => some (Sum.inl e, y.2)) (fun u => m_Order_join_of_X o v u >>= fun q => Sum.elim (fun e => some (Sum.inl e, y.2)) (fun j => some (Sum.inr j, y.2)) q) y.1)) x.1
  | .meet a b, s => runSd ask o a s >>= fun x => Sum.elim (fun e => some (Sum.inl e, x.2)) (fun v => (m_Order_least o >>= fun l => some (v == l)) >>= fun c => bif c then some (Sum.inr v, x.2) else (runSd ask o b x.2 >>= fun y => Sum.elim (fun e => some (Sum.inl e, y.2)) (fun u => m_Order_meet_of_X o v u >>= fun q => Sum.elim (fun e => some (Sum.inl e, y.2)) (fun j => some (Sum.inr j, y.2)) q) y.1)) x.1
  | .fnCopying nm, s => ask s nm >>= fun x => Sum.elim (fun e => some (Sum.inl e, x.2)) (fun u => some (Sum.inr u, x.2)) x.1
  | .fnStop , s => m__law_stop ask s
def callSd {κ : Type} (n : Nat) (t : Sd) (ask : κ → Str → Option ((Xn ⊕ Int) × κ)) (o : m_Order) (s : κ) : Option ((Xn ⊕ Int) × κ) := bif decide (levSd t ≤ n + 10) then runSd ask o t s else none
theorem callSd_of {κ : Type} {n : Nat} {t : Sd} {ask : κ → Str → Option ((Xn ⊕ Int) × κ)} {o : m_Order} {s : κ} {r : (Xn ⊕ Int) × κ} (h : callSd n t ask o s = some r) : levSd t ≤ n + 10 ∧ runSd ask o t s = some r := by
  unfold callSd at h
  by_cases z : levSd t ≤ n + 10
  · rw [decide_eq_true z] at h; exact ⟨z, h⟩
  · rw [decide_eq_false z] at h; cases h
theorem callSd_to {κ : Type} {n : Nat} {t : Sd} {ask : κ → Str → Option ((Xn ⊕ Int) × κ)} {o : m_Order} {s : κ} (z : levSd t ≤ n + 10) : callSd n t ask o s = runSd ask o t s := by
  unfold callSd
  rw [decide_eq_true z]; rfl
abbrev rSdL (w : World) (K : PySem.W.Frag) (mg : Str → Option Value) (base : Heap) : Rep Sd := rSd P w K mg base 8 (r_Order K) levSd (fun t {_} ask o s => runSd ask o t s)
abbrev rSb (w : World) (K : PySem.W.Frag) (mg : Str → Option Value) (base : Heap) : Rep Sd := rSbOf ["Tell", "Copy", "Gate", "JoinSide", "MeetSide"] K (rSdL w K mg base)
def objB : Sd → Bool
  | .tell _ => true
  | .copy _ => true
  | .gate _ _ _ => true
  | .join _ _ => true
  | .meet _ _ => true
  | .fnCopying _ => false
  | .fnStop => false
abbrev rSq (w : World) (K : PySem.W.Frag) (mg : Str → Option Value) (base : Heap) : Rep Sd := rSqOf ["Tell", "Copy", "Gate", "JoinSide", "MeetSide"] K (rSdL w K mg base) objB
structure m_MeetSide where
  left : Sd
  right : Sd
abbrev ns_MeetSide : List Str := ["left", "right"]
def fl_MeetSide (w : World) (K : PySem.W.Frag) (mg : Str → Option Value) (base : Heap) (o : m_MeetSide) : List Pd := [pd (rSdL w K mg base) o.left, pd (rSdL w K mg base) o.right]
abbrev r_MeetSide (w : World) (K : PySem.W.Frag) (mg : Str → Option Value) (base : Heap) : Rep m_MeetSide := rObj (He.ga K "MeetSide") ns_MeetSide (fl_MeetSide w K mg base)
structure m_JoinSide where
  left : Sd
  right : Sd
abbrev ns_JoinSide : List Str := ["left", "right"]
def fl_JoinSide (w : World) (K : PySem.W.Frag) (mg : Str → Option Value) (base : Heap) (o : m_JoinSide) : List Pd := [pd (rSdL w K mg base) o.left, pd (rSdL w K mg base) o.right]
abbrev r_JoinSide (w : World) (K : PySem.W.Frag) (mg : Str → Option Value) (base : Heap) : Rep m_JoinSide := rObj (He.ga K "JoinSide") ns_JoinSide (fl_JoinSide w K mg base)
structure m_Copy where
  name : Str
abbrev ns_Copy : List Str := ["name"]
def fl_Copy (w : World) (K : PySem.W.Frag) (mg : Str → Option Value) (base : Heap) (o : m_Copy) : List Pd := [pd rS o.name]
abbrev r_Copy (w : World) (K : PySem.W.Frag) (mg : Str → Option Value) (base : Heap) : Rep m_Copy := rObj (He.ga K "Copy") ns_Copy (fl_Copy w K mg base)
structure m_Tell where
  value : Int
abbrev ns_Tell : List Str := ["value"]
def fl_Tell (w : World) (K : PySem.W.Frag) (mg : Str → Option Value) (base : Heap) (o : m_Tell) : List Pd := [pd rI o.value]
abbrev r_Tell (w : World) (K : PySem.W.Frag) (mg : Str → Option Value) (base : Heap) : Rep m_Tell := rObj (He.ga K "Tell") ns_Tell (fl_Tell w K mg base)
structure m_Gate where
  name : Str
  at_ : Int
  then_ : Sd
abbrev ns_Gate : List Str := ["name", "at", "then"]
def fl_Gate (w : World) (K : PySem.W.Frag) (mg : Str → Option Value) (base : Heap) (o : m_Gate) : List Pd := [pd rS o.name, pd rI o.at_, pd (rSdL w K mg base) o.then_]
abbrev r_Gate (w : World) (K : PySem.W.Frag) (mg : Str → Option Value) (base : Heap) : Rep m_Gate := rObj (He.ga K "Gate") ns_Gate (fl_Gate w K mg base)
def m_Tell___init__ (value0 : Int) : Option m_Tell :=
  (some value0 >>= fun f1977 => some (m_Tell.mk f1977))
theorem sc_Tell___init__ : FnScope ["self", "value"] ["self", "value"] (defScope s_Tell___init__) := ⟨rfl, rfl, rfl, by decide +kernel, rfl, by decide +kernel, by decide +kernel⟩
theorem ok_Tell___init__ (T : Tx K mg) : Fm P w K mg base CX0 1 "Tell" "__init__" ["self", "value"] (Sim.PI (He.ga K "Tell") (aC rI aN) ns_Tell (fl_Tell w K mg base) (fun i => m_Tell___init__ i.1)) := by
  obtain ⟨fd, F⟩ := T.def_ 22 rfl
  have nd := sc_Tell___init__.nd
  refine fm_mk F (fun _ _ _ _ _ _ us hl => match us, hl with | [_, _], _ => rfl) (F.ok sc_Tell___init__ (fun vs H Q E h => ?_) (fun cdv A outer s H vs Q E hr h => ?_))
  · obtain ⟨G, l, _, ⟨value0, ⟨⟩⟩, r, rfl, wd, ⟨vvalue0, _, rfl, hvalue0, rfl⟩, h, k⟩ := h
    rfl
  · obtain ⟨G, l, _, ⟨value0, ⟨⟩⟩, r, rfl, wd, ⟨vvalue0, _, rfl, hvalue0, rfl⟩, h, k⟩ := h
    cases hvalue0
    have w0 : Wo G H [l] G H _ := Wo.startC wd
    have h : m_Tell___init__ value0 = some r := h
    unfold m_Tell___init__ at h
    refine ⟨_, PSs.nox (pss_cons (ps_fld (pv 0) (pv 1) rfl) pss_nil), ?_⟩
    obtain ⟨f1977, hx1978, h⟩ := bindS h
    refine x_fldN (j := 0) w0 rfl rfl (e_var (R := rI) (x := value0) rfl rfl) hx1978 (T.cls 67 rfl) (T.noat 68 rfl) (by decide +kernel) (by decide) ?_
    intro H1979 G1980 w1981 e1982
    have w1981 : Wo G H [l] G1980 H1979 [(l, cI (He.ga K "Tell") ["value"] [pd rI f1977])] := w1981
    refine x_next ?_
    have h : (m_Tell.mk f1977) = r := Option.some.inj h
    subst h
    exact k _ _ w1981.f (w1981.sub1 (i := 0) rfl)
def m_Tell___call__ {κ : Type} (ask0 : (κ → Str → Option ((Xn ⊕ Int) × κ))) (o0 : m_Order) (self0 : m_Tell) (s0 : κ) : Option ((Xn ⊕ Int) × κ) :=
  (some self0.value >>= fun a1983 => some ((Sum.inr a1983 : Xn ⊕ Int), s0))
theorem sc_Tell___call__ : FnScope ["self", "ask"] ["self", "ask"] (defScope s_Tell___call__) := ⟨rfl, rfl, rfl, by decide +kernel, rfl, by decide +kernel, by decide +kernel⟩
theorem ok_Tell___call__ {n : Nat} (T : Tx K mg) : Fm P w K mg base (L2.CX P w) (n + 15) "Tell" "__call__" ["self", "ask"] (PKo P w K mg base 8 (r_Order K) (aC (r_Tell w K mg base) aN) rI (fun ask o i s => m_Tell___call__ ask o i.1 s)) := by
  obtain ⟨fd, F⟩ := T.def_ 23 rfl
  have nd := sc_Tell___call__.nd
  refine fm_mk F (fun _ _ _ _ _ _ us hl => match us, hl with | [_, _], _ => rfl) (F.ok sc_Tell___call__ (fun vs H Q E h => ?_) (fun cdv A outer s H vs Q E hr h => ?_))
  · obtain ⟨κ, ci, ask0, G, ws0, fk, o0, ⟨self0, ⟨⟩⟩, s0, r, k', rfl, ⟨vself0, _, rfl, hself0, rfl⟩, hord0, A0, wd, h, kx, k⟩ := h
    rfl
  · obtain ⟨κ, ci, ask0, G, ws0, fk, o0, ⟨self0, ⟨⟩⟩, s0, r, k', rfl, ⟨vself0, _, rfl, hself0, rfl⟩, hord0, A0, wd, h, kx, k⟩ := h
    have w0 : Wo G H (List.map (fun c => c.1) (ci s0)) G H _ := Wo.startC wd
    have h : m_Tell___call__ ask0 o0 self0 s0 = some (r, k') := h
    unfold m_Tell___call__ at h
    have tk := takes_of (X := cxOf (L2.CX P w) P w K mg base ["self", "ask"] "Tell.__call__" (defScope s_Tell___call__) (He.fAd K ("Tell", some "__call__")) cdv A outer s H E) rfl rfl rfl (E := E) rfl
    refine ⟨_, (pss_cons (ps_ret (pe_fld (pv 0) rfl)) pss_nil), ?_⟩
    obtain ⟨a1983, hx1984, h⟩ := bindS h
    obtain ⟨h8, h9⟩ : (Sum.inr a1983 : Xn ⊕ Int) = r ∧ s0 = k' := Prod.mk.inj (Option.some.inj h)
    subst h8
    subst h9
    exact x_ret w0 (e_fld 0 (fun (o : m_Tell) => o.value) (e_var (R := (r_Tell w K mg base)) (x := self0) rfl hself0) (T.cls 67 rfl) (T.noat 68 rfl) (by decide +kernel) (fun _ => rfl)) hx1984 (fun v9 H9 G9 w9 e9 r9 => k _ rfl v9 H9 G9 w9.f (w9.w.dropN 0) r9)
theorem sd_Tell (T : Tx K mg) {G : Hp} {v : V} {g : m_Tell} (h : (r_Tell w K mg base).r G v g) : (rSdL w K mg base).r G v (.tell g.value) := by
  have h0 := h
  obtain ⟨a, _, _, rfl, _⟩ := h0
  obtain ⟨fd, F, b⟩ := ok_Tell___call__ (n := 0) (w := w) (base := base) T
  refine ⟨a, rfl, SideOk.congr (SideOk.lev (side_obj (T.meth 69 rfl) (fnm_ok (T.mo 7 rfl)) F b h) (by show 0 + 15 ≤ 15; omega)) fun ask o s => ?_⟩
  show runSd ask o (.tell g.value) s = m_Tell___call__ ask o g s
  unfold m_Tell___call__
  rfl
theorem sb_Tell (T : Tx K mg) {G : Hp} {v : V} {g : m_Tell} (h : (r_Tell w K mg base).r G v g) : (rSb w K mg base).r G v (.tell g.value) := by
  have h0 := h
  obtain ⟨a, dx, fs, rfl, hi, _⟩ := h0
  exact ⟨sd_Tell T h, a, "Tell", dx, fs, rfl, hi, by decide⟩
def m_Copy___init__ (name0 : Str) : Option m_Copy :=
  (some name0 >>= fun f1985 => some (m_Copy.mk f1985))
theorem sc_Copy___init__ : FnScope ["self", "name"] ["self", "name"] (defScope s_Copy___init__) := ⟨rfl, rfl, rfl, by decide +kernel, rfl, by decide +kernel, by decide +kernel⟩
theorem ok_Copy___init__ (T : Tx K mg) : Fm P w K mg base CX0 1 "Copy" "__init__" ["self", "name"] (Sim.PI (He.ga K "Copy") (aC rS aN) ns_Copy (fl_Copy w K mg base) (fun i => m_Copy___init__ i.1)) := by
  obtain ⟨fd, F⟩ := T.def_ 24 rfl
  have nd := sc_Copy___init__.nd
  refine fm_mk F (fun _ _ _ _ _ _ us hl => match us, hl with | [_, _], _ => rfl) (F.ok sc_Copy___init__ (fun vs H Q E h => ?_) (fun cdv A outer s H vs Q E hr h => ?_))
  · obtain ⟨G, l, _, ⟨name0, ⟨⟩⟩, r, rfl, wd, ⟨vname0, _, rfl, hname0, rfl⟩, h, k⟩ := h
    rfl
  · obtain ⟨G, l, _, ⟨name0, ⟨⟩⟩, r, rfl, wd, ⟨vname0, _, rfl, hname0, rfl⟩, h, k⟩ := h
    cases hname0
    have w0 : Wo G H [l] G H _ := Wo.startC wd
    have h : m_Copy___init__ name0 = some r := h
    unfold m_Copy___init__ at h
    refine ⟨_, PSs.nox (pss_cons (ps_fld (pv 0) (pv 1) rfl) pss_nil), ?_⟩
    obtain ⟨f1985, hx1986, h⟩ := bindS h
    refine x_fldN (j := 0) w0 rfl rfl (e_var (R := rS) (x := name0) rfl rfl) hx1986 (T.cls 70 rfl) (T.noat 71 rfl) (by decide +kernel) (by decide) ?_
    intro H1987 G1988 w1989 e1990
    have w1989 : Wo G H [l] G1988 H1987 [(l, cI (He.ga K "Copy") ["name"] [pd rS f1985])] := w1989
    refine x_next ?_
    have h : (m_Copy.mk f1985) = r := Option.some.inj h
    subst h
    exact k _ _ w1989.f (w1989.sub1 (i := 0) rfl)
def m_Copy___call__ {κ : Type} (ask0 : (κ → Str → Option ((Xn ⊕ Int) × κ))) (o0 : m_Order) (self0 : m_Copy) (s0 : κ) : Option ((Xn ⊕ Int) × κ) :=
  (some self0.name >>= fun x1991 => (ask0 s0 x1991 >>= fun x1996 => Sum.elim (fun e2002 => some ((Sum.inl e2002 : Xn ⊕ Int), x1996.2)) (fun v2010 => some ((Sum.inr v2010 : Xn ⊕ Int), x1996.2)) x1996.1))
theorem sc_Copy___call__ : FnScope ["self", "ask"] ["self", "ask"] (defScope s_Copy___call__) := ⟨rfl, rfl, rfl, by decide +kernel, rfl, by decide +kernel, by decide +kernel⟩
theorem ok_Copy___call__ {n : Nat} (T : Tx K mg) : Fm P w K mg base (L2.CX P w) (n + 15) "Copy" "__call__" ["self", "ask"] (PKo P w K mg base 8 (r_Order K) (aC (r_Copy w K mg base) aN) rI (fun ask o i s => m_Copy___call__ ask o i.1 s)) := by
  obtain ⟨fd, F⟩ := T.def_ 25 rfl
  have nd := sc_Copy___call__.nd
  refine fm_mk F (fun _ _ _ _ _ _ us hl => match us, hl with | [_, _], _ => rfl) (F.ok sc_Copy___call__ (fun vs H Q E h => ?_) (fun cdv A outer s H vs Q E hr h => ?_))
  · obtain ⟨κ, ci, ask0, G, ws0, fk, o0, ⟨self0, ⟨⟩⟩, s0, r, k', rfl, ⟨vself0, _, rfl, hself0, rfl⟩, hord0, A0, wd, h, kx, k⟩ := h
    rfl
  · obtain ⟨κ, ci, ask0, G, ws0, fk, o0, ⟨self0, ⟨⟩⟩, s0, r, k', rfl, ⟨vself0, _, rfl, hself0, rfl⟩, hord0, A0, wd, h, kx, k⟩ := h
    have w0 : Wo G H (List.map (fun c => c.1) (ci s0)) G H _ := Wo.startC wd
    have h : m_Copy___call__ ask0 o0 self0 s0 = some (r, k') := h
    unfold m_Copy___call__ at h
    have tk := takes_of (X := cxOf (L2.CX P w) P w K mg base ["self", "ask"] "Copy.__call__" (defScope s_Copy___call__) (He.fAd K ("Copy", some "__call__")) cdv A outer s H E) rfl rfl rfl (E := E) rfl
    refine ⟨_, (pss_cons (ps_ret (LamF.pe_callV (CX := L2.CX P w) (E := fun _ => E) (k := 8) (i := 1) rfl (Or.inl rfl) (hr.mono (by omega)) (fun σ => passAt tk σ) (pa_cons (pe_fld (pv 0) rfl) pa_nil))) pss_nil), ?_⟩
    refine x_retO ?_
    refine o_askN w0 rfl A0.cb ?_
    refine o_cons ?_
    obtain ⟨x1991, hx1992, h⟩ := bindS h
    refine c_s w0 (e_fld 0 (fun (o : m_Copy) => o.name) (e_var (R := (r_Copy w K mg base)) (x := self0) rfl hself0) (T.cls 70 rfl) (T.noat 71 rfl) (by decide +kernel) (fun _ => rfl)) hx1992 ?_
    intro H1993 w1994
    refine o_nil ?_
    obtain ⟨x1996, hx1997, h⟩ := bindS h
    refine c_askXN (ci := ci) (s := s0) w0 0 w1994 rfl A0 hx1997 ?_ ?_
    · intro e2002 he2003 d2004 H2005 G2006 w2007 e2008 xa2009
      have h : Sum.elim _ _ x1996.1 = _ := h
      rw [he2003] at h
      have h := elimL h
      have w2007 : Wo G H (List.map (fun c => c.1) (ci s0)) G2006 H2005 ((ci x1996.2)) := w2007
      obtain ⟨h8, h9⟩ : (Sum.inl e2002 : Xn ⊕ Int) = r ∧ x1996.2 = k' := Prod.mk.inj (Option.some.inj h)
      subst h8
      subst h9
      exact kx _ rfl d2004 H2005 G2006 w2007.f (w2007.w.dropN 0) xa2009
    · intro v2010 hv2011 H2012 G2013 w2014 e2015
      have h : Sum.elim _ _ x1996.1 = _ := h
      rw [hv2011] at h
      have h := elimR h
      have h2016 := Rep.mono _ e2015 hself0
      have h2017 := Rep.mono _ e2015 hord0
      have w2014 : Wo G H (List.map (fun c => c.1) (ci s0)) G2013 H2012 ((ci x1996.2)) := w2014
      obtain ⟨h8, h9⟩ : (Sum.inr v2010 : Xn ⊕ Int) = r ∧ x1996.2 = k' := Prod.mk.inj (Option.some.inj h)
      subst h8
      subst h9
      exact k _ rfl _ _ _ w2014.f (w2014.w.dropN 0) rfl
theorem sd_Copy (T : Tx K mg) {G : Hp} {v : V} {g : m_Copy} (h : (r_Copy w K mg base).r G v g) : (rSdL w K mg base).r G v (.copy g.name) := by
  have h0 := h
  obtain ⟨a, _, _, rfl, _⟩ := h0
  obtain ⟨fd, F, b⟩ := ok_Copy___call__ (n := 0) (w := w) (base := base) T
  refine ⟨a, rfl, SideOk.congr (SideOk.lev (side_obj (T.meth 72 rfl) (fnm_ok (T.mo 8 rfl)) F b h) (by show 0 + 15 ≤ 15; omega)) fun ask o s => ?_⟩
  show runSd ask o (.copy g.name) s = m_Copy___call__ ask o g s
  unfold m_Copy___call__
  rfl
theorem sb_Copy (T : Tx K mg) {G : Hp} {v : V} {g : m_Copy} (h : (r_Copy w K mg base).r G v g) : (rSb w K mg base).r G v (.copy g.name) := by
  have h0 := h
  obtain ⟨a, dx, fs, rfl, hi, _⟩ := h0
  exact ⟨sd_Copy T h, a, "Copy", dx, fs, rfl, hi, by decide⟩
def m_Gate___init__ (name0 : Str) (at0 : Int) (then0 : Sd) : Option m_Gate :=
  (some name0 >>= fun f2018 => (some at0 >>= fun f2025 => (some then0 >>= fun f2032 => some (m_Gate.mk f2018 f2025 f2032))))
theorem sc_Gate___init__ : FnScope ["self", "name", "at", "then"] ["self", "name", "at", "then"] (defScope s_Gate___init__) := ⟨rfl, rfl, rfl, by decide +kernel, rfl, by decide +kernel, by decide +kernel⟩
theorem ok_Gate___init__ (T : Tx K mg) : Fm P w K mg base CX0 1 "Gate" "__init__" ["self", "name", "at", "then"] (Sim.PI (He.ga K "Gate") (aC rS (aC rI (aC (rSdL w K mg base) aN))) ns_Gate (fl_Gate w K mg base) (fun i => m_Gate___init__ i.1 i.2.1 i.2.2.1)) := by
  obtain ⟨fd, F⟩ := T.def_ 26 rfl
  have nd := sc_Gate___init__.nd
  refine fm_mk F (fun _ _ _ _ _ _ us hl => match us, hl with | [_, _, _, _], _ => rfl) (F.ok sc_Gate___init__ (fun vs H Q E h => ?_) (fun cdv A outer s H vs Q E hr h => ?_))
  · obtain ⟨G, l, _, ⟨name0, at0, then0, ⟨⟩⟩, r, rfl, wd, ⟨vname0, _, rfl, hname0, vat0, _, rfl, hat0, vthen0, _, rfl, hthen0, rfl⟩, h, k⟩ := h
    rfl
  · obtain ⟨G, l, _, ⟨name0, at0, then0, ⟨⟩⟩, r, rfl, wd, ⟨vname0, _, rfl, hname0, vat0, _, rfl, hat0, vthen0, _, rfl, hthen0, rfl⟩, h, k⟩ := h
    cases hname0
    cases hat0
    have w0 : Wo G H [l] G H _ := Wo.startC wd
    have h : m_Gate___init__ name0 at0 then0 = some r := h
    unfold m_Gate___init__ at h
    refine ⟨_, PSs.nox (pss_cons (ps_fld (pv 0) (pv 1) rfl) (pss_cons (ps_fld (pv 0) (pv 2) rfl) (pss_cons (ps_fld (pv 0) (pv 3) rfl) pss_nil))), ?_⟩
    obtain ⟨f2018, hx2019, h⟩ := bindS h
    refine x_fldN (j := 0) w0 rfl rfl (e_var (R := rS) (x := name0) rfl rfl) hx2019 (T.cls 73 rfl) (T.noat 74 rfl) (by decide +kernel) (by decide) ?_
    intro H2020 G2021 w2022 e2023
    have h2024 := Rep.mono _ e2023 hthen0
    have w2022 : Wo G H [l] G2021 H2020 [(l, cI (He.ga K "Gate") ["name"] [pd rS f2018])] := w2022
    obtain ⟨f2025, hx2026, h⟩ := bindS h
    refine x_fldN (j := 0) w2022 rfl rfl (e_var (R := rI) (x := at0) rfl rfl) hx2026 (T.cls 73 rfl) (T.noat 75 rfl) (by decide +kernel) (by decide) ?_
    intro H2027 G2028 w2029 e2030
    have h2031 := Rep.mono _ e2030 h2024
    have w2029 : Wo G H [l] G2028 H2027 [(l, cI (He.ga K "Gate") ["name", "at"] [pd rS f2018, pd rI f2025])] := w2029
    obtain ⟨f2032, hx2033, h⟩ := bindS h
    refine x_fldN (j := 0) w2029 rfl rfl (e_var (R := (rSdL w K mg base)) (x := then0) rfl h2031) hx2033 (T.cls 73 rfl) (T.noat 76 rfl) (by decide +kernel) (by decide) ?_
    intro H2034 G2035 w2036 e2037
    have h2038 := Rep.mono _ e2037 h2031
    have w2036 : Wo G H [l] G2035 H2034 [(l, cI (He.ga K "Gate") ["name", "at", "then"] [pd rS f2018, pd rI f2025, pd (rSdL w K mg base) f2032])] := w2036
    refine x_next ?_
    have h : (m_Gate.mk f2018 f2025 f2032) = r := Option.some.inj h
    subst h
    exact k _ _ w2036.f (w2036.sub1 (i := 0) rfl)
def m_Gate___call__ {κ : Type} (n : Nat) (ask0 : (κ → Str → Option ((Xn ⊕ Int) × κ))) (o0 : m_Order) (self0 : m_Gate) (s0 : κ) : Option ((Xn ⊕ Int) × κ) :=
  (some self0.name >>= fun x2039 => (ask0 s0 x2039 >>= fun x2044 => Sum.elim (fun e2050 => some ((Sum.inl e2050 : Xn ⊕ Int), x2044.2)) (fun v2058 => (m_Order_below o0 self0.at_ v2058 >>= fun b2066 => bif b2066 then (callSd n self0.then_ ask0 o0 x2044.2 >>= fun x2080 => Sum.elim (fun e2084 => some ((Sum.inl e2084 : Xn ⊕ Int), x2080.2)) (fun v2092 => some ((Sum.inr v2092 : Xn ⊕ Int), x2080.2)) x2080.1) else (m_Order_least o0 >>= fun a2102 => some ((Sum.inr a2102 : Xn ⊕ Int), x2044.2)))) x2044.1))
theorem sc_Gate___call__ : FnScope ["self", "ask", "answer"] ["self", "ask"] (defScope s_Gate___call__) := ⟨rfl, rfl, rfl, by decide +kernel, rfl, by decide +kernel, by decide +kernel⟩
theorem ok_Gate___call__ {n : Nat} (T : Tx K mg) : Fm P w K mg base (L2.CX P w) (n + 15) "Gate" "__call__" ["self", "ask"] (PKo P w K mg base 8 (r_Order K) (aC (r_Gate w K mg base) aN) rI (fun ask o i s => m_Gate___call__ n ask o i.1 s)) := by
  obtain ⟨fd_Order_below, G_Order_below, b_Order_below⟩ := ok_Order_below (w := w) (base := base) T
  obtain ⟨fd_Order_least, G_Order_least, b_Order_least⟩ := ok_Order_least (w := w) (base := base) T
  obtain ⟨fd, F⟩ := T.def_ 27 rfl
  have nd := sc_Gate___call__.nd
  refine fm_mk F (fun _ _ _ _ _ _ us hl => match us, hl with | [_, _], _ => rfl) (F.ok sc_Gate___call__ (fun vs H Q E h => ?_) (fun cdv A outer s H vs Q E hr h => ?_))
  · obtain ⟨κ, ci, ask0, G, ws0, fk, o0, ⟨self0, ⟨⟩⟩, s0, r, k', rfl, ⟨vself0, _, rfl, hself0, rfl⟩, hord0, A0, wd, h, kx, k⟩ := h
    rfl
  · obtain ⟨κ, ci, ask0, G, ws0, fk, o0, ⟨self0, ⟨⟩⟩, s0, r, k', rfl, ⟨vself0, _, rfl, hself0, rfl⟩, hord0, A0, wd, h, kx, k⟩ := h
    have w0 : Wo G H (List.map (fun c => c.1) (ci s0)) G H _ := Wo.startC wd
    have h : m_Gate___call__ n ask0 o0 self0 s0 = some (r, k') := h
    unfold m_Gate___call__ at h
    have tk := takes_of (X := cxOf (L2.CX P w) P w K mg base ["self", "ask", "answer"] "Gate.__call__" (defScope s_Gate___call__) (He.fAd K ("Gate", some "__call__")) cdv A outer s H E) rfl rfl rfl (E := E) rfl
    refine ⟨_, (pss_cons (ps_set (i := 2) nd rfl (Or.inl rfl) (LamF.pe_callV (CX := L2.CX P w) (E := fun _ => E) (k := 8) (i := 1) rfl (Or.inl rfl) (hr.mono (by omega)) (fun σ => passAt tk σ) (pa_cons (pe_fld (pv 0) rfl) pa_nil))) (pss_cons (ps_if (pt_val (pe_meth (show L2.PE _ _ (tFld K _ _) from pe_fld (pv 1) (by rfl)) (T.cls 60 rfl) (T.meth 77 rfl) G_Order_below (hr.mono (by omega)) b_Order_below .nil pass0 (pa_cons (show L2.PE _ _ (tFld K _ _) from pe_fld (pv 0) (by rfl)) (pa_cons (pv 2) pa_nil)))) (pss_cons (ps_ret (LamF.pe_callF (CX := L2.CX P w) (Ez := fun _ => E) (k := n + 10) (pv 0) (hr.mono (by omega)) (fun σ => passAt tk σ) (pa_cons (pv 1) pa_nil))) pss_nil) pss_nil) (pss_cons (ps_ret (pe_prop (pe_fld (pv 1) rfl) (T.cls 60 rfl) ((T.ge 0 rfl).1 rfl) G_Order_least (hr.mono (by omega)) b_Order_least .nil pass0 rfl)) pss_nil))), ?_⟩
    refine x_setO ?_
    refine o_askN w0 rfl A0.cb ?_
    refine o_cons ?_
    obtain ⟨x2039, hx2040, h⟩ := bindS h
    refine c_s w0 (e_fld 0 (fun (o : m_Gate) => o.name) (e_var (R := (r_Gate w K mg base)) (x := self0) rfl hself0) (T.cls 73 rfl) (T.noat 74 rfl) (by decide +kernel) (fun _ => rfl)) hx2040 ?_
    intro H2041 w2042
    refine o_nil ?_
    obtain ⟨x2044, hx2045, h⟩ := bindS h
    refine c_askXN (ci := ci) (s := s0) w0 0 w2042 rfl A0 hx2045 ?_ ?_
    · intro e2050 he2051 d2052 H2053 G2054 w2055 e2056 xa2057
      have h : Sum.elim _ _ x2044.1 = _ := h
      rw [he2051] at h
      have h := elimL h
      have w2055 : Wo G H (List.map (fun c => c.1) (ci s0)) G2054 H2053 ((ci x2044.2)) := w2055
      obtain ⟨h8, h9⟩ : (Sum.inl e2050 : Xn ⊕ Int) = r ∧ x2044.2 = k' := Prod.mk.inj (Option.some.inj h)
      subst h8
      subst h9
      exact kx _ rfl d2052 H2053 G2054 w2055.f (w2055.w.dropN 0) xa2057
    · intro v2058 hv2059 H2060 G2061 w2062 e2063
      have h : Sum.elim _ _ x2044.1 = _ := h
      rw [hv2059] at h
      have h := elimR h
      have h2064 := Rep.mono _ e2063 hself0
      have h2065 := Rep.mono _ e2063 hord0
      have w2062 : Wo G H (List.map (fun c => c.1) (ci s0)) G2061 H2060 ((ci x2044.2)) := w2062
      obtain ⟨b2066, hx2067, h⟩ := bindS h
      refine x_if w2062 (et_B (e_meth (e_at (e_var (R := rAt K (r_Order K) "order") rfl (Rep.mono _ w2062.ex h2065))) (ea_cons (e_fld 1 (fun (o : m_Gate) => o.at_) (e_var (R := (r_Gate w K mg base)) (x := self0) rfl (Rep.mono _ w2062.ex h2064)) (T.cls 73 rfl) (T.noat 75 rfl) (by decide +kernel) (fun _ => rfl)) (ea_cons (e_var (R := rI) (x := v2058) rfl rfl) ea_nil)) (by decide +kernel))) (by first | (simp only [be1, bs1, ba1] at hx2067 ⊢; exact hx2067) | exact hx2067) ?_ ?_
      · intro hbb2066 H2068 w2069
        subst hbb2066
        have h := bifT h
        refine x_retO ?_
        refine o_callF (i := 2) (S := rSdL w K mg base) (y := self0.then_) w2069 (e_var (R := (r_Gate w K mg base)) rfl h2064) (T.cls 73 rfl) (T.noat 76 rfl) (by decide +kernel) rfl (fun v2070 H2071 G2072 w2073 e2074 r2075 => ?_)
        have h2078 := Rep.mono _ e2074 h2064
        have h2079 := Rep.mono _ e2074 h2065
        obtain ⟨f2076, rfl, sok2077⟩ := r2075
        refine ⟨_, rfl, cbk_mono w2073.ex sok2077.cb, ?_⟩
        refine o_cons ?_
        refine o_var rfl ?_
        refine o_nil ?_
        obtain ⟨x2080, hx2081, h⟩ := bindS h
        obtain ⟨hl2082, hc2083⟩ := callSd_of hx2081
        refine c_sideN (ci := ci) (s := x2044.2) w2073 (Evl.Ex.refl _) 0 w2073 rfl (SideOk.lev sok2077 hl2082) A0 h2079 hc2083 ?_ ?_
        · intro e2084 he2085 d2086 H2087 G2088 w2089 e2090 xa2091
          have h : Sum.elim _ _ x2080.1 = _ := h
          rw [he2085] at h
          have h := elimL h
          have w2089 : Wo G H (List.map (fun c => c.1) (ci s0)) G2088 H2087 ((ci x2080.2)) := w2089
          obtain ⟨h8, h9⟩ : (Sum.inl e2084 : Xn ⊕ Int) = r ∧ x2080.2 = k' := Prod.mk.inj (Option.some.inj h)
          subst h8
          subst h9
          exact kx _ rfl d2086 H2087 G2088 w2089.f (w2089.w.dropN 0) xa2091
        · intro v2092 hv2093 H2094 G2095 w2096 e2097
          have h : Sum.elim _ _ x2080.1 = _ := h
          rw [hv2093] at h
          have h := elimR h
          have h2098 := Rep.mono _ e2097 h2078
          have h2099 := Rep.mono _ e2097 h2079
          have w2096 : Wo G H (List.map (fun c => c.1) (ci s0)) G2095 H2094 ((ci x2080.2)) := w2096
          obtain ⟨h8, h9⟩ : (Sum.inr v2092 : Xn ⊕ Int) = r ∧ x2080.2 = k' := Prod.mk.inj (Option.some.inj h)
          subst h8
          subst h9
          exact k _ rfl _ _ _ w2096.f (w2096.w.dropN 0) rfl
      · intro hbb2066 H2100 w2101
        subst hbb2066
        have h := bifF h
        refine x_next ?_
        obtain ⟨a2102, hx2103, h⟩ := bindS h
        obtain ⟨h8, h9⟩ : (Sum.inr a2102 : Xn ⊕ Int) = r ∧ x2044.2 = k' := Prod.mk.inj (Option.some.inj h)
        subst h8
        subst h9
        exact x_ret w2101 (e_prop (e_at (e_var (R := rAt K (r_Order K) "order") rfl h2065))) hx2103 (fun v9 H9 G9 w9 e9 r9 => k _ rfl v9 H9 G9 w9.f (w9.w.dropN 0) r9)
theorem sd_Gate (T : Tx K mg) {G : Hp} {v : V} {g : m_Gate} (h : (r_Gate w K mg base).r G v g) : (rSdL w K mg base).r G v (.gate g.name g.at_ g.then_) := by
  have h0 := h
  obtain ⟨a, _, _, rfl, _⟩ := h0
  obtain ⟨fd, F, b⟩ := ok_Gate___call__ (n := levSd g.then_ - 10) (w := w) (base := base) T
  have l0 := lev_ge g.then_
  refine ⟨a, rfl, SideOk.congr (SideOk.lev (side_obj (T.meth 78 rfl) (fnm_ok (T.mo 9 rfl)) F b h) (by show levSd g.then_ - 10 + 15 ≤ levSd g.then_ + 5; omega)) fun ask o s => ?_⟩
  show runSd ask o (.gate g.name g.at_ g.then_) s = m_Gate___call__ (levSd g.then_ - 10) ask o g s
  unfold m_Gate___call__
  simp only [callSd_to (show levSd g.then_ ≤ levSd g.then_ - 10 + 10 by omega)]
  rfl
theorem sb_Gate (T : Tx K mg) {G : Hp} {v : V} {g : m_Gate} (h : (r_Gate w K mg base).r G v g) : (rSb w K mg base).r G v (.gate g.name g.at_ g.then_) := by
  have h0 := h
  obtain ⟨a, dx, fs, rfl, hi, _⟩ := h0
  exact ⟨sd_Gate T h, a, "Gate", dx, fs, rfl, hi, by decide⟩
def m_PairSide___init___JoinSide (left0 : Sd) (right0 : Sd) : Option m_JoinSide :=
  (some left0 >>= fun f2104 => (some right0 >>= fun f2112 => some (m_JoinSide.mk f2104 f2112)))
theorem sc_PairSide___init___JoinSide : FnScope ["self", "left", "right"] ["self", "left", "right"] (defScope s_PairSide___init__) := ⟨rfl, rfl, rfl, by decide +kernel, rfl, by decide +kernel, by decide +kernel⟩
theorem ok_PairSide___init___JoinSide (T : Tx K mg) : Fm P w K mg base CX0 1 "PairSide" "__init__" ["self", "left", "right"] (Sim.PI (He.ga K "JoinSide") (aC (rSdL w K mg base) (aC (rSdL w K mg base) aN)) ns_JoinSide (fl_JoinSide w K mg base) (fun i => m_PairSide___init___JoinSide i.1 i.2.1)) := by
  obtain ⟨fd, F⟩ := T.def_ 28 rfl
  have nd := sc_PairSide___init___JoinSide.nd
  refine fm_mk F (fun _ _ _ _ _ _ us hl => match us, hl with | [_, _, _], _ => rfl) (F.ok sc_PairSide___init___JoinSide (fun vs H Q E h => ?_) (fun cdv A outer s H vs Q E hr h => ?_))
  · obtain ⟨G, l, _, ⟨left0, right0, ⟨⟩⟩, r, rfl, wd, ⟨vleft0, _, rfl, hleft0, vright0, _, rfl, hright0, rfl⟩, h, k⟩ := h
    rfl
  · obtain ⟨G, l, _, ⟨left0, right0, ⟨⟩⟩, r, rfl, wd, ⟨vleft0, _, rfl, hleft0, vright0, _, rfl, hright0, rfl⟩, h, k⟩ := h
    have w0 : Wo G H [l] G H _ := Wo.startC wd
    have h : m_PairSide___init___JoinSide left0 right0 = some r := h
    unfold m_PairSide___init___JoinSide at h
    refine ⟨_, PSs.nox (pss_cons (ps_fld (pv 0) (pv 1) rfl) (pss_cons (ps_fld (pv 0) (pv 2) rfl) pss_nil)), ?_⟩
    obtain ⟨f2104, hx2105, h⟩ := bindS h
    refine x_fldN (j := 0) w0 rfl rfl (e_var (R := (rSdL w K mg base)) (x := left0) rfl hleft0) hx2105 (T.cls 79 rfl) (T.noat 80 rfl) (by decide +kernel) (by decide) ?_
    intro H2106 G2107 w2108 e2109
    have h2110 := Rep.mono _ e2109 hleft0
    have h2111 := Rep.mono _ e2109 hright0
    have w2108 : Wo G H [l] G2107 H2106 [(l, cI (He.ga K "JoinSide") ["left"] [pd (rSdL w K mg base) f2104])] := w2108
    obtain ⟨f2112, hx2113, h⟩ := bindS h
    refine x_fldN (j := 0) w2108 rfl rfl (e_var (R := (rSdL w K mg base)) (x := right0) rfl h2111) hx2113 (T.cls 79 rfl) (T.noat 81 rfl) (by decide +kernel) (by decide) ?_
    intro H2114 G2115 w2116 e2117
    have h2118 := Rep.mono _ e2117 h2110
    have h2119 := Rep.mono _ e2117 h2111
    have w2116 : Wo G H [l] G2115 H2114 [(l, cI (He.ga K "JoinSide") ["left", "right"] [pd (rSdL w K mg base) f2104, pd (rSdL w K mg base) f2112])] := w2116
    refine x_next ?_
    have h : (m_JoinSide.mk f2104 f2112) = r := Option.some.inj h
    subst h
    exact k _ _ w2116.f (w2116.sub1 (i := 0) rfl)
def m_JoinSide___call__ {κ : Type} (n : Nat) (ask0 : (κ → Str → Option ((Xn ⊕ Int) × κ))) (o0 : m_Order) (self0 : m_JoinSide) (s0 : κ) : Option ((Xn ⊕ Int) × κ) :=
  (callSd n self0.left ask0 o0 s0 >>= fun x2130 => Sum.elim (fun e2134 => some ((Sum.inl e2134 : Xn ⊕ Int), x2130.2)) (fun v2142 => ((m_Order_greatest o0 >>= fun t2150 => some (v2142 == t2150)) >>= fun b2151 => bif b2151 then (some v2142 >>= fun a2155 => some ((Sum.inr a2155 : Xn ⊕ Int), x2130.2)) else (some o0 >>= fun o2159 => (some v2142 >>= fun x2170 => (callSd n self0.right ask0 o0 x2130.2 >>= fun x2186 => Sum.elim (fun e2190 => some ((Sum.inl e2190 : Xn ⊕ Int), x2186.2)) (fun v2198 => (m_Order_join_of_X o2159 x2170 v2198 >>= fun x2208 => Sum.elim (fun e2210 => some ((Sum.inl e2210 : Xn ⊕ Int), x2186.2)) (fun v2218 => some ((Sum.inr v2218 : Xn ⊕ Int), x2186.2)) x2208)) x2186.1))))) x2130.1)
theorem sc_JoinSide___call__ : FnScope ["self", "ask", "told"] ["self", "ask"] (defScope s_JoinSide___call__) := ⟨rfl, rfl, rfl, by decide +kernel, rfl, by decide +kernel, by decide +kernel⟩
theorem ok_JoinSide___call__ {n : Nat} (T : Tx K mg) : Fm P w K mg base (L2.CX P w) (n + 15) "JoinSide" "__call__" ["self", "ask"] (PKo P w K mg base 8 (r_Order K) (aC (r_JoinSide w K mg base) aN) rI (fun ask o i s => m_JoinSide___call__ n ask o i.1 s)) := by
  obtain ⟨fd_Order_greatest, G_Order_greatest, b_Order_greatest⟩ := ok_Order_greatest (w := w) (base := base) T
  obtain ⟨fd_Order_join_of_X, G_Order_join_of_X, b_Order_join_of_X⟩ := ok_Order_join_of_X (w := w) (base := base) T
  obtain ⟨fd, F⟩ := T.def_ 29 rfl
  have nd := sc_JoinSide___call__.nd
  refine fm_mk F (fun _ _ _ _ _ _ us hl => match us, hl with | [_, _], _ => rfl) (F.ok sc_JoinSide___call__ (fun vs H Q E h => ?_) (fun cdv A outer s H vs Q E hr h => ?_))
  · obtain ⟨κ, ci, ask0, G, ws0, fk, o0, ⟨self0, ⟨⟩⟩, s0, r, k', rfl, ⟨vself0, _, rfl, hself0, rfl⟩, hord0, A0, wd, h, kx, k⟩ := h
    rfl
  · obtain ⟨κ, ci, ask0, G, ws0, fk, o0, ⟨self0, ⟨⟩⟩, s0, r, k', rfl, ⟨vself0, _, rfl, hself0, rfl⟩, hord0, A0, wd, h, kx, k⟩ := h
    have w0 : Wo G H (List.map (fun c => c.1) (ci s0)) G H _ := Wo.startC wd
    have h : m_JoinSide___call__ n ask0 o0 self0 s0 = some (r, k') := h
    unfold m_JoinSide___call__ at h
    have tk := takes_of (X := cxOf (L2.CX P w) P w K mg base ["self", "ask", "told"] "JoinSide.__call__" (defScope s_JoinSide___call__) (He.fAd K ("JoinSide", some "__call__")) cdv A outer s H E) rfl rfl rfl (E := E) rfl
    refine ⟨_, (pss_cons (ps_set (i := 2) nd rfl (Or.inl rfl) (LamF.pe_callF (CX := L2.CX P w) (Ez := fun _ => E) (k := n + 10) (pv 0) (hr.mono (by omega)) (fun σ => passAt tk σ) (pa_cons (pv 1) pa_nil))) (pss_cons (ps_if (pt_cmpR op_eq (pv 2) (pe_prop (show L2.PE _ _ (tFld K _ _) from pe_fld (pv 1) (by rfl)) (T.cls 60 rfl) ((T.ge 1 rfl).1 rfl) G_Order_greatest (hr.mono (by omega)) b_Order_greatest .nil pass0 rfl) (nomark _)) (pss_cons (ps_ret (pv 2)) pss_nil) pss_nil) (pss_cons (ps_ret (pe_meth (pe_fld (pv 1) rfl) (T.cls 60 rfl) (T.meth 82 rfl) G_Order_join_of_X (hr.mono (by omega)) b_Order_join_of_X .nil (passes_call tk (fun _ _ _ _ h => h)) (pa_cons (pv 2) (pa_cons (LamF.pe_callF (CX := L2.CX P w) (Ez := fun _ => E) (k := n + 10) (pv 0) (hr.mono (by omega)) (fun σ => passAt tk σ) (pa_cons (pv 1) pa_nil)) pa_nil)))) pss_nil))), ?_⟩
    refine x_setO ?_
    refine o_callF (i := 0) (S := rSdL w K mg base) (y := self0.left) w0 (e_var (R := (r_JoinSide w K mg base)) rfl hself0) (T.cls 79 rfl) (T.noat 80 rfl) (by decide +kernel) rfl (fun v2120 H2121 G2122 w2123 e2124 r2125 => ?_)
    have h2128 := Rep.mono _ e2124 hself0
    have h2129 := Rep.mono _ e2124 hord0
    obtain ⟨f2126, rfl, sok2127⟩ := r2125
    refine ⟨_, rfl, cbk_mono w2123.ex sok2127.cb, ?_⟩
    refine o_cons ?_
    refine o_var rfl ?_
    refine o_nil ?_
    obtain ⟨x2130, hx2131, h⟩ := bindS h
    obtain ⟨hl2132, hc2133⟩ := callSd_of hx2131
    refine c_sideN (ci := ci) (s := s0) w2123 (Evl.Ex.refl _) 0 w2123 rfl (SideOk.lev sok2127 hl2132) A0 h2129 hc2133 ?_ ?_
    · intro e2134 he2135 d2136 H2137 G2138 w2139 e2140 xa2141
      have h : Sum.elim _ _ x2130.1 = _ := h
      rw [he2135] at h
      have h := elimL h
      have w2139 : Wo G H (List.map (fun c => c.1) (ci s0)) G2138 H2137 ((ci x2130.2)) := w2139
      obtain ⟨h8, h9⟩ : (Sum.inl e2134 : Xn ⊕ Int) = r ∧ x2130.2 = k' := Prod.mk.inj (Option.some.inj h)
      subst h8
      subst h9
      exact kx _ rfl d2136 H2137 G2138 w2139.f (w2139.w.dropN 0) xa2141
    · intro v2142 hv2143 H2144 G2145 w2146 e2147
      have h : Sum.elim _ _ x2130.1 = _ := h
      rw [hv2143] at h
      have h := elimR h
      have h2148 := Rep.mono _ e2147 h2128
      have h2149 := Rep.mono _ e2147 h2129
      have w2146 : Wo G H (List.map (fun c => c.1) (ci s0)) G2145 H2144 ((ci x2130.2)) := w2146
      obtain ⟨b2151, hx2152, h⟩ := bindS h
      refine x_if w2146 (et_T (e_op rr_eqI (e_var (R := rI) (x := v2142) rfl rfl) (e_prop (e_at (e_var (R := rAt K (r_Order K) "order") rfl (Rep.mono _ w2146.ex h2149)))))) (by first | (simp only [be1, bs1, ba1] at hx2152 ⊢; exact hx2152) | exact hx2152) ?_ ?_
      · intro hbb2151 H2153 w2154
        subst hbb2151
        have h := bifT h
        obtain ⟨a2155, hx2156, h⟩ := bindS h
        obtain ⟨h8, h9⟩ : (Sum.inr a2155 : Xn ⊕ Int) = r ∧ x2130.2 = k' := Prod.mk.inj (Option.some.inj h)
        subst h8
        subst h9
        exact x_ret w2154 (e_var (R := rI) (x := v2142) rfl rfl) hx2156 (fun v9 H9 G9 w9 e9 r9 => k _ rfl v9 H9 G9 w9.f (w9.w.dropN 0) r9)
      · intro hbb2151 H2157 w2158
        subst hbb2151
        have h := bifF h
        refine x_next ?_
        refine x_retO ?_
        obtain ⟨o2159, hx2160, h⟩ := bindS h
        refine o_methA w2158 (e_at (e_var (R := rAt K (r_Order K) "order") rfl h2149)) hx2160 (by decide +kernel) (fun v2161 H2162 G2163 w2164 e2165 r2166 => ?_)
        have h2167 := Rep.mono _ e2165 h2148
        have h2168 := Rep.mono _ e2165 h2149
        refine o_cons ?_
        obtain ⟨x2170, hx2171, h⟩ := bindS h
        refine c_i w2164 (e_var (R := rI) (x := v2142) rfl rfl) hx2171 ?_
        intro H2172 w2173
        refine o_cons ?_
        refine o_callF (i := 1) (S := rSdL w K mg base) (y := self0.right) w2173 (e_var (R := (r_JoinSide w K mg base)) rfl h2167) (T.cls 79 rfl) (T.noat 81 rfl) (by decide +kernel) rfl (fun v2175 H2176 G2177 w2178 e2179 r2180 => ?_)
        have h2183 := Rep.mono _ e2179 h2167
        have h2184 := Rep.mono _ e2179 h2168
        have h2185 := Rep.mono _ e2179 r2166
        obtain ⟨f2181, rfl, sok2182⟩ := r2180
        refine ⟨_, rfl, cbk_mono w2178.ex sok2182.cb, ?_⟩
        refine o_cons ?_
        refine o_var rfl ?_
        refine o_nil ?_
        obtain ⟨x2186, hx2187, h⟩ := bindS h
        obtain ⟨hl2188, hc2189⟩ := callSd_of hx2187
        refine c_sideN (ci := ci) (s := x2130.2) w2178 (Evl.Ex.refl _) 0 w2178 rfl (SideOk.lev sok2182 hl2188) A0 h2184 hc2189 ?_ ?_
        · intro e2190 he2191 d2192 H2193 G2194 w2195 e2196 xa2197
          have h : Sum.elim _ _ x2186.1 = _ := h
          rw [he2191] at h
          have h := elimL h
          have w2195 : Wo G H (List.map (fun c => c.1) (ci s0)) G2194 H2193 ((ci x2186.2)) := w2195
          obtain ⟨h8, h9⟩ : (Sum.inl e2190 : Xn ⊕ Int) = r ∧ x2186.2 = k' := Prod.mk.inj (Option.some.inj h)
          subst h8
          subst h9
          exact kx _ rfl d2192 H2193 G2194 w2195.f (w2195.w.dropN 0) xa2197
        · intro v2198 hv2199 H2200 G2201 w2202 e2203
          have h : Sum.elim _ _ x2186.1 = _ := h
          rw [hv2199] at h
          have h := elimR h
          have h2204 := Rep.mono _ e2203 h2183
          have h2205 := Rep.mono _ e2203 h2184
          have h2206 := Rep.mono _ e2203 h2185
          have w2202 : Wo G H (List.map (fun c => c.1) (ci s0)) G2201 H2200 ((ci x2186.2)) := w2202
          refine o_nil ?_
          obtain ⟨x2208, hx2209, h⟩ := bindS h
          refine c_px (i := (o2159, x2170, v2198, ())) w2202 ⟨_, _, rfl, h2206, _, _, rfl, rfl, _, _, rfl, rfl, rfl⟩ hx2209 ?_ ?_
          · intro e2210 he2211 d2212 H2213 G2214 w2215 e2216 xa2217
            have h : Sum.elim _ _ x2208 = _ := h
            rw [he2211] at h
            have h := elimL h
            have w2215 : Wo G H (List.map (fun c => c.1) (ci s0)) G2214 H2213 ((ci x2186.2)) := w2215
            obtain ⟨h8, h9⟩ : (Sum.inl e2210 : Xn ⊕ Int) = r ∧ x2186.2 = k' := Prod.mk.inj (Option.some.inj h)
            subst h8
            subst h9
            exact kx _ rfl d2212 H2213 G2214 w2215.f (w2215.w.dropN 0) xa2217
          · intro v2218 hv2219 u2224 H2220 G2221 w2222 e2223 r2225
            have h : Sum.elim _ _ x2208 = _ := h
            rw [hv2219] at h
            have h := elimR h
            have h2226 := Rep.mono _ e2223 h2204
            have h2227 := Rep.mono _ e2223 h2205
            have h2228 := Rep.mono _ e2223 h2206
            have w2222 : Wo G H (List.map (fun c => c.1) (ci s0)) G2221 H2220 ((ci x2186.2)) := w2222
            cases r2225
            obtain ⟨h8, h9⟩ : (Sum.inr v2218 : Xn ⊕ Int) = r ∧ x2186.2 = k' := Prod.mk.inj (Option.some.inj h)
            subst h8
            subst h9
            exact k _ rfl _ _ _ w2222.f (w2222.w.dropN 0) rfl
theorem sd_JoinSide (T : Tx K mg) {G : Hp} {v : V} {g : m_JoinSide} (h : (r_JoinSide w K mg base).r G v g) : (rSdL w K mg base).r G v (.join g.left g.right) := by
  have h0 := h
  obtain ⟨a, _, _, rfl, _⟩ := h0
  obtain ⟨fd, F, b⟩ := ok_JoinSide___call__ (n := max (levSd g.left) (levSd g.right) - 10) (w := w) (base := base) T
  have l0 := lev_ge g.left
  have l1 := lev_ge g.right
  refine ⟨a, rfl, SideOk.congr (SideOk.lev (side_obj (T.meth 83 rfl) (fnm_ok (T.mo 10 rfl)) F b h) (by show max (levSd g.left) (levSd g.right) - 10 + 15 ≤ max (levSd g.left) (levSd g.right) + 5; omega)) fun ask o s => ?_⟩
  show runSd ask o (.join g.left g.right) s = m_JoinSide___call__ (max (levSd g.left) (levSd g.right) - 10) ask o g s
  unfold m_JoinSide___call__
  simp only [callSd_to (show levSd g.left ≤ max (levSd g.left) (levSd g.right) - 10 + 10 by omega)]
  simp only [callSd_to (show levSd g.right ≤ max (levSd g.left) (levSd g.right) - 10 + 10 by omega)]
  rfl
def m_PairSide___init___MeetSide (left0 : Sd) (right0 : Sd) : Option m_MeetSide :=
  (some left0 >>= fun f2229 => (some right0 >>= fun f2237 => some (m_MeetSide.mk f2229 f2237)))
theorem sc_PairSide___init___MeetSide : FnScope ["self", "left", "right"] ["self", "left", "right"] (defScope s_PairSide___init__) := ⟨rfl, rfl, rfl, by decide +kernel, rfl, by decide +kernel, by decide +kernel⟩
theorem ok_PairSide___init___MeetSide (T : Tx K mg) : Fm P w K mg base CX0 1 "PairSide" "__init__" ["self", "left", "right"] (Sim.PI (He.ga K "MeetSide") (aC (rSdL w K mg base) (aC (rSdL w K mg base) aN)) ns_MeetSide (fl_MeetSide w K mg base) (fun i => m_PairSide___init___MeetSide i.1 i.2.1)) := by
  obtain ⟨fd, F⟩ := T.def_ 28 rfl
  have nd := sc_PairSide___init___MeetSide.nd
  refine fm_mk F (fun _ _ _ _ _ _ us hl => match us, hl with | [_, _, _], _ => rfl) (F.ok sc_PairSide___init___MeetSide (fun vs H Q E h => ?_) (fun cdv A outer s H vs Q E hr h => ?_))
  · obtain ⟨G, l, _, ⟨left0, right0, ⟨⟩⟩, r, rfl, wd, ⟨vleft0, _, rfl, hleft0, vright0, _, rfl, hright0, rfl⟩, h, k⟩ := h
    rfl
  · obtain ⟨G, l, _, ⟨left0, right0, ⟨⟩⟩, r, rfl, wd, ⟨vleft0, _, rfl, hleft0, vright0, _, rfl, hright0, rfl⟩, h, k⟩ := h
    have w0 : Wo G H [l] G H _ := Wo.startC wd
    have h : m_PairSide___init___MeetSide left0 right0 = some r := h
    unfold m_PairSide___init___MeetSide at h
    refine ⟨_, PSs.nox (pss_cons (ps_fld (pv 0) (pv 1) rfl) (pss_cons (ps_fld (pv 0) (pv 2) rfl) pss_nil)), ?_⟩
    obtain ⟨f2229, hx2230, h⟩ := bindS h
    refine x_fldN (j := 0) w0 rfl rfl (e_var (R := (rSdL w K mg base)) (x := left0) rfl hleft0) hx2230 (T.cls 84 rfl) (T.noat 85 rfl) (by decide +kernel) (by decide) ?_
    intro H2231 G2232 w2233 e2234
    have h2235 := Rep.mono _ e2234 hleft0
    have h2236 := Rep.mono _ e2234 hright0
    have w2233 : Wo G H [l] G2232 H2231 [(l, cI (He.ga K "MeetSide") ["left"] [pd (rSdL w K mg base) f2229])] := w2233
    obtain ⟨f2237, hx2238, h⟩ := bindS h
    refine x_fldN (j := 0) w2233 rfl rfl (e_var (R := (rSdL w K mg base)) (x := right0) rfl h2236) hx2238 (T.cls 84 rfl) (T.noat 86 rfl) (by decide +kernel) (by decide) ?_
    intro H2239 G2240 w2241 e2242
    have h2243 := Rep.mono _ e2242 h2235
    have h2244 := Rep.mono _ e2242 h2236
    have w2241 : Wo G H [l] G2240 H2239 [(l, cI (He.ga K "MeetSide") ["left", "right"] [pd (rSdL w K mg base) f2229, pd (rSdL w K mg base) f2237])] := w2241
    refine x_next ?_
    have h : (m_MeetSide.mk f2229 f2237) = r := Option.some.inj h
    subst h
    exact k _ _ w2241.f (w2241.sub1 (i := 0) rfl)
def m_MeetSide___call__ {κ : Type} (n : Nat) (ask0 : (κ → Str → Option ((Xn ⊕ Int) × κ))) (o0 : m_Order) (self0 : m_MeetSide) (s0 : κ) : Option ((Xn ⊕ Int) × κ) :=
  (callSd n self0.left ask0 o0 s0 >>= fun x2255 => Sum.elim (fun e2259 => some ((Sum.inl e2259 : Xn ⊕ Int), x2255.2)) (fun v2267 => ((m_Order_least o0 >>= fun t2275 => some (v2267 == t2275)) >>= fun b2276 => bif b2276 then (some v2267 >>= fun a2280 => some ((Sum.inr a2280 : Xn ⊕ Int), x2255.2)) else (some o0 >>= fun o2284 => (some v2267 >>= fun x2295 => (callSd n self0.right ask0 o0 x2255.2 >>= fun x2311 => Sum.elim (fun e2315 => some ((Sum.inl e2315 : Xn ⊕ Int), x2311.2)) (fun v2323 => (m_Order_meet_of_X o2284 x2295 v2323 >>= fun x2333 => Sum.elim (fun e2335 => some ((Sum.inl e2335 : Xn ⊕ Int), x2311.2)) (fun v2343 => some ((Sum.inr v2343 : Xn ⊕ Int), x2311.2)) x2333)) x2311.1))))) x2255.1)
theorem sc_MeetSide___call__ : FnScope ["self", "ask", "told"] ["self", "ask"] (defScope s_MeetSide___call__) := ⟨rfl, rfl, rfl, by decide +kernel, rfl, by decide +kernel, by decide +kernel⟩
theorem ok_MeetSide___call__ {n : Nat} (T : Tx K mg) : Fm P w K mg base (L2.CX P w) (n + 15) "MeetSide" "__call__" ["self", "ask"] (PKo P w K mg base 8 (r_Order K) (aC (r_MeetSide w K mg base) aN) rI (fun ask o i s => m_MeetSide___call__ n ask o i.1 s)) := by
  obtain ⟨fd_Order_least, G_Order_least, b_Order_least⟩ := ok_Order_least (w := w) (base := base) T
  obtain ⟨fd_Order_meet_of_X, G_Order_meet_of_X, b_Order_meet_of_X⟩ := ok_Order_meet_of_X (w := w) (base := base) T
  obtain ⟨fd, F⟩ := T.def_ 30 rfl
  have nd := sc_MeetSide___call__.nd
  refine fm_mk F (fun _ _ _ _ _ _ us hl => match us, hl with | [_, _], _ => rfl) (F.ok sc_MeetSide___call__ (fun vs H Q E h => ?_) (fun cdv A outer s H vs Q E hr h => ?_))
  · obtain ⟨κ, ci, ask0, G, ws0, fk, o0, ⟨self0, ⟨⟩⟩, s0, r, k', rfl, ⟨vself0, _, rfl, hself0, rfl⟩, hord0, A0, wd, h, kx, k⟩ := h
    rfl
  · obtain ⟨κ, ci, ask0, G, ws0, fk, o0, ⟨self0, ⟨⟩⟩, s0, r, k', rfl, ⟨vself0, _, rfl, hself0, rfl⟩, hord0, A0, wd, h, kx, k⟩ := h
    have w0 : Wo G H (List.map (fun c => c.1) (ci s0)) G H _ := Wo.startC wd
    have h : m_MeetSide___call__ n ask0 o0 self0 s0 = some (r, k') := h
    unfold m_MeetSide___call__ at h
    have tk := takes_of (X := cxOf (L2.CX P w) P w K mg base ["self", "ask", "told"] "MeetSide.__call__" (defScope s_MeetSide___call__) (He.fAd K ("MeetSide", some "__call__")) cdv A outer s H E) rfl rfl rfl (E := E) rfl
    refine ⟨_, (pss_cons (ps_set (i := 2) nd rfl (Or.inl rfl) (LamF.pe_callF (CX := L2.CX P w) (Ez := fun _ => E) (k := n + 10) (pv 0) (hr.mono (by omega)) (fun σ => passAt tk σ) (pa_cons (pv 1) pa_nil))) (pss_cons (ps_if (pt_cmpR op_eq (pv 2) (pe_prop (show L2.PE _ _ (tFld K _ _) from pe_fld (pv 1) (by rfl)) (T.cls 60 rfl) ((T.ge 0 rfl).1 rfl) G_Order_least (hr.mono (by omega)) b_Order_least .nil pass0 rfl) (nomark _)) (pss_cons (ps_ret (pv 2)) pss_nil) pss_nil) (pss_cons (ps_ret (pe_meth (pe_fld (pv 1) rfl) (T.cls 60 rfl) (T.meth 87 rfl) G_Order_meet_of_X (hr.mono (by omega)) b_Order_meet_of_X .nil (passes_call tk (fun _ _ _ _ h => h)) (pa_cons (pv 2) (pa_cons (LamF.pe_callF (CX := L2.CX P w) (Ez := fun _ => E) (k := n + 10) (pv 0) (hr.mono (by omega)) (fun σ => passAt tk σ) (pa_cons (pv 1) pa_nil)) pa_nil)))) pss_nil))), ?_⟩
    refine x_setO ?_
    refine o_callF (i := 0) (S := rSdL w K mg base) (y := self0.left) w0 (e_var (R := (r_MeetSide w K mg base)) rfl hself0) (T.cls 84 rfl) (T.noat 85 rfl) (by decide +kernel) rfl (fun v2245 H2246 G2247 w2248 e2249 r2250 => ?_)
    have h2253 := Rep.mono _ e2249 hself0
    have h2254 := Rep.mono _ e2249 hord0
    obtain ⟨f2251, rfl, sok2252⟩ := r2250
    refine ⟨_, rfl, cbk_mono w2248.ex sok2252.cb, ?_⟩
    refine o_cons ?_
    refine o_var rfl ?_
    refine o_nil ?_
    obtain ⟨x2255, hx2256, h⟩ := bindS h
    obtain ⟨hl2257, hc2258⟩ := callSd_of hx2256
    refine c_sideN (ci := ci) (s := s0) w2248 (Evl.Ex.refl _) 0 w2248 rfl (SideOk.lev sok2252 hl2257) A0 h2254 hc2258 ?_ ?_
    · intro e2259 he2260 d2261 H2262 G2263 w2264 e2265 xa2266
      have h : Sum.elim _ _ x2255.1 = _ := h
      rw [he2260] at h
      have h := elimL h
      have w2264 : Wo G H (List.map (fun c => c.1) (ci s0)) G2263 H2262 ((ci x2255.2)) := w2264
      obtain ⟨h8, h9⟩ : (Sum.inl e2259 : Xn ⊕ Int) = r ∧ x2255.2 = k' := Prod.mk.inj (Option.some.inj h)
      subst h8
      subst h9
      exact kx _ rfl d2261 H2262 G2263 w2264.f (w2264.w.dropN 0) xa2266
    · intro v2267 hv2268 H2269 G2270 w2271 e2272
      have h : Sum.elim _ _ x2255.1 = _ := h
      rw [hv2268] at h
      have h := elimR h
      have h2273 := Rep.mono _ e2272 h2253
      have h2274 := Rep.mono _ e2272 h2254
      have w2271 : Wo G H (List.map (fun c => c.1) (ci s0)) G2270 H2269 ((ci x2255.2)) := w2271
      obtain ⟨b2276, hx2277, h⟩ := bindS h
      refine x_if w2271 (et_T (e_op rr_eqI (e_var (R := rI) (x := v2267) rfl rfl) (e_prop (e_at (e_var (R := rAt K (r_Order K) "order") rfl (Rep.mono _ w2271.ex h2274)))))) (by first | (simp only [be1, bs1, ba1] at hx2277 ⊢; exact hx2277) | exact hx2277) ?_ ?_
      · intro hbb2276 H2278 w2279
        subst hbb2276
        have h := bifT h
        obtain ⟨a2280, hx2281, h⟩ := bindS h
        obtain ⟨h8, h9⟩ : (Sum.inr a2280 : Xn ⊕ Int) = r ∧ x2255.2 = k' := Prod.mk.inj (Option.some.inj h)
        subst h8
        subst h9
        exact x_ret w2279 (e_var (R := rI) (x := v2267) rfl rfl) hx2281 (fun v9 H9 G9 w9 e9 r9 => k _ rfl v9 H9 G9 w9.f (w9.w.dropN 0) r9)
      · intro hbb2276 H2282 w2283
        subst hbb2276
        have h := bifF h
        refine x_next ?_
        refine x_retO ?_
        obtain ⟨o2284, hx2285, h⟩ := bindS h
        refine o_methA w2283 (e_at (e_var (R := rAt K (r_Order K) "order") rfl h2274)) hx2285 (by decide +kernel) (fun v2286 H2287 G2288 w2289 e2290 r2291 => ?_)
        have h2292 := Rep.mono _ e2290 h2273
        have h2293 := Rep.mono _ e2290 h2274
        refine o_cons ?_
        obtain ⟨x2295, hx2296, h⟩ := bindS h
        refine c_i w2289 (e_var (R := rI) (x := v2267) rfl rfl) hx2296 ?_
        intro H2297 w2298
        refine o_cons ?_
        refine o_callF (i := 1) (S := rSdL w K mg base) (y := self0.right) w2298 (e_var (R := (r_MeetSide w K mg base)) rfl h2292) (T.cls 84 rfl) (T.noat 86 rfl) (by decide +kernel) rfl (fun v2300 H2301 G2302 w2303 e2304 r2305 => ?_)
        have h2308 := Rep.mono _ e2304 h2292
        have h2309 := Rep.mono _ e2304 h2293
        have h2310 := Rep.mono _ e2304 r2291
        obtain ⟨f2306, rfl, sok2307⟩ := r2305
        refine ⟨_, rfl, cbk_mono w2303.ex sok2307.cb, ?_⟩
        refine o_cons ?_
        refine o_var rfl ?_
        refine o_nil ?_
        obtain ⟨x2311, hx2312, h⟩ := bindS h
        obtain ⟨hl2313, hc2314⟩ := callSd_of hx2312
        refine c_sideN (ci := ci) (s := x2255.2) w2303 (Evl.Ex.refl _) 0 w2303 rfl (SideOk.lev sok2307 hl2313) A0 h2309 hc2314 ?_ ?_
        · intro e2315 he2316 d2317 H2318 G2319 w2320 e2321 xa2322
          have h : Sum.elim _ _ x2311.1 = _ := h
          rw [he2316] at h
          have h := elimL h
          have w2320 : Wo G H (List.map (fun c => c.1) (ci s0)) G2319 H2318 ((ci x2311.2)) := w2320
          obtain ⟨h8, h9⟩ : (Sum.inl e2315 : Xn ⊕ Int) = r ∧ x2311.2 = k' := Prod.mk.inj (Option.some.inj h)
          subst h8
          subst h9
          exact kx _ rfl d2317 H2318 G2319 w2320.f (w2320.w.dropN 0) xa2322
        · intro v2323 hv2324 H2325 G2326 w2327 e2328
          have h : Sum.elim _ _ x2311.1 = _ := h
          rw [hv2324] at h
          have h := elimR h
          have h2329 := Rep.mono _ e2328 h2308
          have h2330 := Rep.mono _ e2328 h2309
          have h2331 := Rep.mono _ e2328 h2310
          have w2327 : Wo G H (List.map (fun c => c.1) (ci s0)) G2326 H2325 ((ci x2311.2)) := w2327
          refine o_nil ?_
          obtain ⟨x2333, hx2334, h⟩ := bindS h
          refine c_px (i := (o2284, x2295, v2323, ())) w2327 ⟨_, _, rfl, h2331, _, _, rfl, rfl, _, _, rfl, rfl, rfl⟩ hx2334 ?_ ?_
          · intro e2335 he2336 d2337 H2338 G2339 w2340 e2341 xa2342
            have h : Sum.elim _ _ x2333 = _ := h
            rw [he2336] at h
            have h := elimL h
            have w2340 : Wo G H (List.map (fun c => c.1) (ci s0)) G2339 H2338 ((ci x2311.2)) := w2340
            obtain ⟨h8, h9⟩ : (Sum.inl e2335 : Xn ⊕ Int) = r ∧ x2311.2 = k' := Prod.mk.inj (Option.some.inj h)
            subst h8
            subst h9
            exact kx _ rfl d2337 H2338 G2339 w2340.f (w2340.w.dropN 0) xa2342
          · intro v2343 hv2344 u2349 H2345 G2346 w2347 e2348 r2350
            have h : Sum.elim _ _ x2333 = _ := h
            rw [hv2344] at h
            have h := elimR h
            have h2351 := Rep.mono _ e2348 h2329
            have h2352 := Rep.mono _ e2348 h2330
            have h2353 := Rep.mono _ e2348 h2331
            have w2347 : Wo G H (List.map (fun c => c.1) (ci s0)) G2346 H2345 ((ci x2311.2)) := w2347
            cases r2350
            obtain ⟨h8, h9⟩ : (Sum.inr v2343 : Xn ⊕ Int) = r ∧ x2311.2 = k' := Prod.mk.inj (Option.some.inj h)
            subst h8
            subst h9
            exact k _ rfl _ _ _ w2347.f (w2347.w.dropN 0) rfl
theorem sd_MeetSide (T : Tx K mg) {G : Hp} {v : V} {g : m_MeetSide} (h : (r_MeetSide w K mg base).r G v g) : (rSdL w K mg base).r G v (.meet g.left g.right) := by
  have h0 := h
  obtain ⟨a, _, _, rfl, _⟩ := h0
  obtain ⟨fd, F, b⟩ := ok_MeetSide___call__ (n := max (levSd g.left) (levSd g.right) - 10) (w := w) (base := base) T
  have l0 := lev_ge g.left
  have l1 := lev_ge g.right
  refine ⟨a, rfl, SideOk.congr (SideOk.lev (side_obj (T.meth 88 rfl) (fnm_ok (T.mo 11 rfl)) F b h) (by show max (levSd g.left) (levSd g.right) - 10 + 15 ≤ max (levSd g.left) (levSd g.right) + 5; omega)) fun ask o s => ?_⟩
  show runSd ask o (.meet g.left g.right) s = m_MeetSide___call__ (max (levSd g.left) (levSd g.right) - 10) ask o g s
  unfold m_MeetSide___call__
  simp only [callSd_to (show levSd g.left ≤ max (levSd g.left) (levSd g.right) - 10 + 10 by omega)]
  simp only [callSd_to (show levSd g.right ≤ max (levSd g.left) (levSd g.right) - 10 + 10 by omega)]
  rfl
def m_Side___or__ (self0 : Sd) (other0 : Sd) : Option m_JoinSide :=
  (m_PairSide___init___JoinSide self0 other0 >>= fun a2354 => some a2354)
theorem sc_Side___or__ : FnScope ["self", "other"] ["self", "other"] (defScope s_Side___or__) := ⟨rfl, rfl, rfl, by decide +kernel, rfl, by decide +kernel, by decide +kernel⟩
theorem ok_Side___or__ (T : Tx K mg) : Fm P w K mg base CX0 3 "Side" "__or__" ["self", "other"] (PF (aC (rSb w K mg base) (aC (rSdL w K mg base) aN)) (r_JoinSide w K mg base) (fun i => m_Side___or__ i.1 i.2.1)) := by
  obtain ⟨fd_PairSide___init___JoinSide, G_PairSide___init___JoinSide, b_PairSide___init___JoinSide⟩ := ok_PairSide___init___JoinSide (w := w) (base := base) T
  rw [← eqm_ok (T.mo 12 rfl)] at G_PairSide___init___JoinSide
  obtain ⟨fd, F⟩ := T.def_ 20 rfl
  have nd := sc_Side___or__.nd
  refine fm_mk F (fun _ _ _ _ _ _ us hl => match us, hl with | [_, _], _ => rfl) (F.ok sc_Side___or__ (fun vs H Q E h => ?_) (fun cdv A outer s H vs Q E hr h => ?_))
  · obtain ⟨G, ⟨self0, other0, ⟨⟩⟩, r, e0, ⟨vself0, _, rfl, hself0, vother0, _, rfl, hother0, rfl⟩, h, k⟩ := h
    rfl
  · obtain ⟨G, ⟨self0, other0, ⟨⟩⟩, r, e0, ⟨vself0, _, rfl, hself0, vother0, _, rfl, hother0, rfl⟩, h, k⟩ := h
    have w0 := Wo.start e0
    have h : m_Side___or__ self0 other0 = some r := h
    unfold m_Side___or__ at h
    refine ⟨_, PSs.nox (pss_cons (ps_ret (pe_make (T.mkr 89 rfl) G_PairSide___init___JoinSide (hr.mono (by decide)) rfl (T.glo 29 rfl) b_PairSide___init___JoinSide .nil pass0 (pa_cons (pv 0) (pa_cons (pv 1) pa_nil)))) pss_nil), ?_⟩
    obtain ⟨a2354, hx2355, h⟩ := bindS h
    have h : a2354 = r := Option.some.inj h
    subst h
    exact x_ret w0 (e_make (ea_cons (e_cv (c := fun x => x) (e_var (R := (rSb w K mg base)) (x := self0) rfl hself0) (fun h => h.1)) (ea_cons (e_var (R := (rSdL w K mg base)) (x := other0) rfl hother0) ea_nil))) (by first | (simp only [be1, bs1, ba1] at hx2355 ⊢; exact hx2355) | exact hx2355) (fun v9 H9 G9 w9 e9 r9 => k v9 H9 G9 w9.upE r9)
def m_Side___and__ (self0 : Sd) (other0 : Sd) : Option m_MeetSide :=
  (m_PairSide___init___MeetSide self0 other0 >>= fun a2356 => some a2356)
theorem sc_Side___and__ : FnScope ["self", "other"] ["self", "other"] (defScope s_Side___and__) := ⟨rfl, rfl, rfl, by decide +kernel, rfl, by decide +kernel, by decide +kernel⟩
theorem ok_Side___and__ (T : Tx K mg) : Fm P w K mg base CX0 3 "Side" "__and__" ["self", "other"] (PF (aC (rSb w K mg base) (aC (rSdL w K mg base) aN)) (r_MeetSide w K mg base) (fun i => m_Side___and__ i.1 i.2.1)) := by
  obtain ⟨fd_PairSide___init___MeetSide, G_PairSide___init___MeetSide, b_PairSide___init___MeetSide⟩ := ok_PairSide___init___MeetSide (w := w) (base := base) T
  rw [← eqm_ok (T.mo 13 rfl)] at G_PairSide___init___MeetSide
  obtain ⟨fd, F⟩ := T.def_ 21 rfl
  have nd := sc_Side___and__.nd
  refine fm_mk F (fun _ _ _ _ _ _ us hl => match us, hl with | [_, _], _ => rfl) (F.ok sc_Side___and__ (fun vs H Q E h => ?_) (fun cdv A outer s H vs Q E hr h => ?_))
  · obtain ⟨G, ⟨self0, other0, ⟨⟩⟩, r, e0, ⟨vself0, _, rfl, hself0, vother0, _, rfl, hother0, rfl⟩, h, k⟩ := h
    rfl
  · obtain ⟨G, ⟨self0, other0, ⟨⟩⟩, r, e0, ⟨vself0, _, rfl, hself0, vother0, _, rfl, hother0, rfl⟩, h, k⟩ := h
    have w0 := Wo.start e0
    have h : m_Side___and__ self0 other0 = some r := h
    unfold m_Side___and__ at h
    refine ⟨_, PSs.nox (pss_cons (ps_ret (pe_make (T.mkr 90 rfl) G_PairSide___init___MeetSide (hr.mono (by decide)) rfl (T.glo 30 rfl) b_PairSide___init___MeetSide .nil pass0 (pa_cons (pv 0) (pa_cons (pv 1) pa_nil)))) pss_nil), ?_⟩
    obtain ⟨a2356, hx2357, h⟩ := bindS h
    have h : a2356 = r := Option.some.inj h
    subst h
    exact x_ret w0 (e_make (ea_cons (e_cv (c := fun x => x) (e_var (R := (rSb w K mg base)) (x := self0) rfl hself0) (fun h => h.1)) (ea_cons (e_var (R := (rSdL w K mg base)) (x := other0) rfl hother0) ea_nil))) (by first | (simp only [be1, bs1, ba1] at hx2357 ⊢; exact hx2357) | exact hx2357) (fun v9 H9 G9 w9 e9 r9 => k v9 H9 G9 w9.upE r9)
abbrev m__law_copying (a0 : Str) : Option Sd := some (Sd.fnCopying a0)
theorem sc__law_copying : FnScope ["_law_name"] ["_law_name"] (defScope s__law_copying) := ⟨rfl, rfl, rfl, by decide +kernel, rfl, by decide +kernel, by decide +kernel⟩
theorem sc9__law_copying : ∀ y ∈ (["_law_name"] : List Str), (defScope s__law_copying).names.lookup y = some NameKind.cell := by decide +kernel
theorem ok__law_copying (T : Tx K mg) (Y : ∀ p ∈ tf, LamX.TabB base mg (p.c K).1 (p.c K).2) : Fk P w K mg base CX0 14 "_law_copying" ["_law_name"] (PTm (tb K) (aC rS aN) (rSq w K mg base) (fun i => some (Sd.fnCopying i.1))) := by
  obtain ⟨fd, F⟩ := T.def_ 44 rfl
  have L := LamF.fn_lam (P := My.P) (w := w) (mg := mg) (base := base) (CX := CX0) (k := 13) (fr := ["_law_name"]) (Pt := LamF.tabOf K (He.fAd K ("_law_copying", none))) (ws := fun vs => vs) F sc__law_copying (Y t__law_copying (by unfold tf; simp)) (fun _ => rfl) (frees_sub (by kernel_rfl)) (fun y hy => ⟨frees_in (by kernel_rfl) y hy, sc9__law_copying y hy⟩) (fun _ hl => hl) hws_id
  refine fk_mk T.toTx (x := "_law_copying") (T.glo 44 rfl) F (fun _ _ _ _ _ _ us hl => match us, hl with | [_], _ => rfl) (fn_side (j := 0) (A := aC rS aN) L rfl (fun hv => by obtain ⟨_, _, rfl, _, rfl⟩ := hv; rfl) (fun {G fl F9 vs i} h1 h2 h3 h4 hv cl => ?_))
  obtain ⟨v0, _, rfl, hv0, rfl⟩ := hv
  cases hv0
  obtain ⟨q9, p9, b9, s9, l9, c9⟩ := F9
  dsimp only at h1 h2 h3 h4
  subst h1 h2 h3 h4
  refine sq_fn ⟨fl, rfl, SideOk.congr (sem' := fun ask o s => runSd ask o (Sd.fnCopying i.1) s) (SideOk.lev (side_askv (N := ["_law_ask", "_law_name"]) cl (by decide) (LamF.run_cloA (N := ["_law_ask", "_law_name"]) (ps := ["_law_ask"]) LamF.cxlay LamF.ncxP (NdefX.nscope_by (by kernel_rfl)) (fun _ _ us hl => match us, hl with | [_], _ => rfl) (fun A outer s H E hr e0 cl9 => LamF.pe_callIn (k := 8) (i := 0) LamF.cxlay LamF.ncxP hr e0 cl9 rfl (by first | exact Or.inl rfl | exact Or.inr (Or.inl rfl) | exact Or.inr (Or.inr rfl)) (pa_cons (pv 1 rfl (by first | exact Or.inl rfl | exact Or.inr (Or.inl rfl) | exact Or.inr (Or.inr rfl))) pa_nil)) cl)) (by show _ ≤ 20; decide)) (fun ask o s => rfl)⟩ rfl rfl (.inl ⟨_, cl.at_⟩)
theorem sc_Asker___init__ : FnScope ["self", "order"] ["self", "order"] (defScope s_Asker___init__) := ⟨rfl, rfl, rfl, by decide +kernel, rfl, by decide +kernel, by decide +kernel⟩
theorem ok_Asker___init___TableAsker (T : Tx K mg) : Fm P w K mg base CX0 1 "Asker" "__init__" ["self", "order"] (PIA (He.ga K "TableAsker") (aC (r_Order K) aN) (rP rS rI) ns_Asker (fl_Asker K) (fun i => some i.1)) := by
  obtain ⟨fd, F⟩ := T.def_ 1 rfl
  have nd := sc_Asker___init__.nd
  refine fm_mk F (fun _ _ _ _ _ _ us hl => match us, hl with | [_, _], _ => rfl) (F.ok sc_Asker___init__ (fun vs H Q E h => ?_) (fun cdv A outer s H vs Q E hr h => ?_))
  · obtain ⟨G, l, _, ⟨order0, ⟨⟩⟩, r, rfl, wd, ⟨vorder0, _, rfl, horder0, rfl⟩, h, k⟩ := h
    rfl
  · obtain ⟨G, l, _, ⟨order0, ⟨⟩⟩, r, rfl, wd, ⟨vorder0, _, rfl, horder0, rfl⟩, h, k⟩ := h
    have w0 : Wo G H [l] G H _ := Wo.startC wd
    have h : some order0 = some r := h
    cases h
    refine ⟨_, PSs.nox (pss_cons (ps_fld (pv 0) (pv 1) rfl) (pss_cons (ps_fld (pv 0) (pe_lst pa_nil) rfl) pss_nil)), ?_⟩
    refine x_fldN (j := 0) w0 rfl rfl (e_var (R := r_Order K) (x := order0) rfl horder0) rfl (T.cls 91 rfl) (T.noat 92 rfl) (by decide +kernel) (by decide) ?_
    intro H1 G1 w1 e1
    have w1 : Wo G H [l] G1 H1 [(l, cI (He.ga K "TableAsker") ["order"] [pd (r_Order K) order0])] := w1
    refine x_fldL (j := 0) w1 rfl rfl (el_disp (R := rP rS rI) eal_nil) rfl (T.cls 91 rfl) (T.noat 93 rfl) (by decide) (by decide +kernel) ?_
    intro p H2 G2 n2 w2 e2
    refine x_next ?_
    exact k _ _ p n2 w2.f w2.w
def m_TableAsker_look (self0 : m_TableAsker) (asks0 : List (Str × Int)) (name0 : Str) : Option (Xn ⊕ Int) :=
  (andO (some self0.2.2.isSome) (self0.2.2 >>= fun al => some (!al.any fun z => z == name0))) >>= fun b => bif b then some (Sum.inl ⟨"NoSide", [("name", .str name0)]⟩) else
    (m_Order_least self0.1 >>= fun t => some ((lookM self0.2.1 name0).getD t)) >>= fun v => (m_Order___contains__ self0.1 v >>= fun z => some (!z)) >>= fun b => bif b then some (Sum.inl ⟨"NotElement", [("value", .int v)]⟩) else some (Sum.inr v)
theorem sc_TableAsker_look : FnScope ["self", "name", "value"] ["self", "name"] (defScope s_TableAsker_look) := ⟨rfl, rfl, rfl, by decide +kernel, rfl, by decide +kernel, by decide +kernel⟩
theorem ok_TableAsker_look (T : Tx K mg) : Fm P w K mg base (L2.CX P w) 3 "TableAsker" "look" ["self", "name"] (PXB K (aC (rS_TableAsker K) (aC rS aN)) (fun i => i.1.1) (rP rS rI) rI (fun ys i => m_TableAsker_look i.1.2 ys i.2.1)) := by
  obtain ⟨fI_NoSide, b_NoSide, F_NoSide⟩ := okx_NoSide (w := w) (base := base) T
  have Y_NoSide := known_NoSide T
  have g_NoSide := T.glo 9 rfl
  obtain ⟨fI_NotElement, b_NotElement, F_NotElement⟩ := okx_NotElement (w := w) (base := base) T
  have Y_NotElement := known_NotElement T
  have g_NotElement := T.glo 3 rfl
  obtain ⟨fd_least, G_least, b_least⟩ := ok_Order_least (w := w) (base := base) T
  obtain ⟨fd_cont, G_cont, b_cont⟩ := ok_Order___contains__ (w := w) (base := base) T
  obtain ⟨fd, F⟩ := T.def_ 3 rfl
  have nd := sc_TableAsker_look.nd
  refine fm_mk F (fun _ _ _ _ _ _ us hl => match us, hl with | [_, _], _ => rfl) (F.ok sc_TableAsker_look (fun vs H Q E h => ?_) (fun cdv A outer s H vs Q E hr h => ?_))
  · obtain ⟨G, ⟨⟨l, o0⟩, name0, ⟨⟩⟩, ys, r, e0, ⟨vself0, _, rfl, hself0, vname0, _, rfl, hname0, rfl⟩, L0, h, kx, k⟩ := h
    rfl
  · obtain ⟨G, ⟨⟨l, o0⟩, name0, ⟨⟩⟩, ys, r, e0, ⟨vself0, _, rfl, hself0, vname0, _, rfl, hname0, rfl⟩, L0, h, kx, k⟩ := h
    cases hname0
    have w0 := Wo.start e0
    have h : m_TableAsker_look o0 ys name0 = some r := h
    unfold m_TableAsker_look at h
    have tk := takes_of (X := cxOf (L2.CX P w) P w K mg base ["self", "name", "value"] "TableAsker.look" (defScope s_TableAsker_look) (He.fAd K ("TableAsker", some "look")) cdv A outer s H E) rfl rfl rfl (E := E) rfl
    refine ⟨_, (pss_cons (ps_if (PW.pt (pw_and (pt_cmpR op_notN (show L2.PE _ _ (tFld K _ _) from pe_fld (pv 0) (by rfl)) pe_non (nomark _)) (pw_and1 (pt_cmpR (r := rIn K true) op_notIn_seq (pv 1) (show L2.PE _ _ (tFld K _ _) from pe_fld (pv 0) (by rfl)) (by rfl))))) (pss_cons (ps_raise rfl tk (pmk_oex Y_NoSide.oex Y_NoSide.ini Y_NoSide.ty F_NoSide (hr.mono (by decide)) b_NoSide .nil pass0 rfl g_NoSide (pa_cons (pv 1) pa_nil))) pss_nil) pss_nil) (pss_cons (ps_set (i := 2) nd rfl (Or.inl rfl) (pe_dget2 (hu_of hr) (show L2.PE _ _ (tFld K _ _) from pe_fld (pv 0) (by rfl)) (pv 1) (pe_prop (show L2.PE _ _ (tFld K _ _) from pe_fld (pv 0) (by rfl)) (T.cls 60 rfl) ((T.ge 0 rfl).1 rfl) G_least (hr.mono (by decide)) b_least .nil pass0 rfl) ⟨rfl, rfl, rfl, rfl⟩)) (pss_cons (ps_if (pt_cmpR (op_notInO G_cont (hr.mono (by decide)) (T.meth 96 rfl) b_cont) (pv 2) (show L2.PE _ _ (tFld K _ _) from pe_fld (pv 0) (by rfl)) (by rfl)) (pss_cons (ps_raise rfl tk (pmk_oex Y_NotElement.oex Y_NotElement.ini Y_NotElement.ty F_NotElement (hr.mono (by decide)) b_NotElement .nil pass0 rfl g_NotElement (pa_cons (pv 2) pa_nil))) pss_nil) pss_nil) (pss_cons (ps_ret (pv 2)) pss_nil)))), ?_⟩
    obtain ⟨b1, hx1, h⟩ := bindS h
    refine x_if w0 (et_and (et_T (e_op (rr_notN nnL) (e_fld 3 (fun (o : Addr × m_TableAsker) => o.2.2.2) (e_var (R := rS_TableAsker K) (x := (l, o0)) rfl (Rep.mono _ w0.ex hself0)) (T.cls 91 rfl) (T.noat 95 rfl) (by decide +kernel) (fun _ => rfl)) e_non)) (et_T (e_op (rr_ninL flS) (e_var (R := rS) (x := name0) rfl rfl) (e_get (e_fld 3 (fun (o : Addr × m_TableAsker) => o.2.2.2) (e_var (R := rS_TableAsker K) (x := (l, o0)) rfl (Rep.mono _ w0.ex hself0)) (T.cls 91 rfl) (T.noat 95 rfl) (by decide +kernel) (fun _ => rfl)))))) (by first | exact hx1 | (simp only [be1, bs1, ba1] at hx1 ⊢; exact hx1)) ?_ ?_
    · intro hbb1 H1 w1
      subst hbb1
      have h := bifT h
      cases h
      refine x_raise (A := (aC rS aN)) (i := (name0, ())) w1 (ea_cons (e_var (R := rS) (x := name0) rfl rfl) ea_nil) rfl (fun G9 vs9 r9 => by obtain ⟨u0, _, rfl, q0, rfl⟩ := r9; exact ⟨rfl, by simp⟩) ?_
      intro vs9 H9 G9 d9 w9 r9 e9 hd9
      obtain ⟨u0, _, rfl, q0, rfl⟩ := r9
      exact kx _ rfl d9 H9 G9 w9.upE (Xat_mk (names := ["name"]) (xs := [.str name0]) (by decide) hd9 (.cons q0 .nil))
    · intro hbb1 H1 w1
      subst hbb1
      have h := bifF h
      refine x_next ?_
      obtain ⟨v2, hx2, h⟩ := bindS h
      refine x_setI w1 (e_dget2 kyS injS (e_fld 2 (fun (o : Addr × m_TableAsker) => o.2.2.1) (e_var (R := rS_TableAsker K) (x := (l, o0)) rfl hself0) (T.cls 91 rfl) (T.noat 94 rfl) (by decide +kernel) (fun _ => rfl)) (e_var (R := rS) (x := name0) rfl rfl) (e_prop (e_fld 0 (fun (o : Addr × m_TableAsker) => o.2.1) (e_var (R := rS_TableAsker K) (x := (l, o0)) rfl hself0) (T.cls 91 rfl) (T.noat 92 rfl) (by decide +kernel) (fun _ => rfl)))) (by first | exact hx2 | (simp only [be1, bs1, ba1] at hx2 ⊢; exact hx2)) ?_
      intro H2 w2
      obtain ⟨b3, hx3, h⟩ := bindS h
      refine x_if w2 (et_T (e_op (rr_inO (g := (!·))) (e_var (R := rI) (x := v2) rfl rfl) (e_fld 0 (fun (o : Addr × m_TableAsker) => o.2.1) (e_var (R := rS_TableAsker K) (x := (l, o0)) rfl (Rep.mono _ w2.ex hself0)) (T.cls 91 rfl) (T.noat 92 rfl) (by decide +kernel) (fun _ => rfl)))) (by first | exact hx3 | (simp only [be1, bs1, ba1] at hx3 ⊢; exact hx3)) ?_ ?_
      · intro hbb3 H3 w3
        subst hbb3
        have h := bifT h
        cases h
        refine x_raise (A := (aC rI aN)) (i := (v2, ())) w3 (ea_cons (e_var (R := rI) (x := v2) rfl rfl) ea_nil) rfl (fun G9 vs9 r9 => by obtain ⟨u0, _, rfl, q0, rfl⟩ := r9; exact ⟨rfl, by simp⟩) ?_
        intro vs9 H9 G9 d9 w9 r9 e9 hd9
        obtain ⟨u0, _, rfl, q0, rfl⟩ := r9
        exact kx _ rfl d9 H9 G9 w9.upE (Xat_mk (names := ["value"]) (xs := [.int v2]) (by decide) hd9 (.cons q0 .nil))
      · intro hbb3 H3 w3
        subst hbb3
        have h := bifF h
        cases h
        refine x_next ?_
        exact x_ret w3 (e_var (R := rI) (x := v2) rfl rfl) rfl (fun v9 H9 G9 w9 e9 r9 => k _ rfl v9 H9 G9 w9.upE r9)
def m_call_b1 (name0 : Str) (x : Str × Int) (s : Unit) : Option (Stp Unit Int) := some (decide (x.1 = name0)) >>= fun b => bif b then some (Stp.rt x.2) else some (Stp.nx ())
def m_call (look : List (Str × Int) → Str → Option (Xn ⊕ Int)) (asks0 : List (Str × Int)) (name0 : Str) : Option ((Xn ⊕ Int) × List (Str × Int)) :=
  forL (m_call_b1 name0) asks0 () >>= Sum.elim (fun _ => look asks0 name0 >>= fun r => Sum.elim (fun e => some (Sum.inl e, asks0)) (fun v => appM asks0 (name0, v) >>= fun a => some (Sum.inr v, a)) r) (fun v => some (Sum.inr v, asks0))
theorem sc_Asker___call__ : FnScope ["self", "name", "asked", "answer", "found"] ["self", "name"] (defScope s_Asker___call__) := ⟨rfl, rfl, rfl, by decide +kernel, rfl, by decide +kernel, by decide +kernel⟩
theorem ok_Asker___call___TableAsker (T : Tx K mg) : Fm P w K mg base (L2.CX P w) 4 "Asker" "__call__" ["self", "name"] (PXA K (aC (rS_TableAsker K) (aC rS aN)) (fun i => i.1.1) (rP rS rI) rI (fun i ys => m_call (m_TableAsker_look i.1.2) ys i.2.1)) := by
  obtain ⟨fd_look, G_look, b_look⟩ := ok_TableAsker_look (w := w) (base := base) T
  obtain ⟨fd, F⟩ := T.def_ 2 rfl
  have nd := sc_Asker___call__.nd
  refine fm_mk F (fun _ _ _ _ _ _ us hl => match us, hl with | [_, _], _ => rfl) (F.ok sc_Asker___call__ (fun vs H Q E h => ?_) (fun cdv A outer s H vs Q E hr h => ?_))
  · obtain ⟨G, ⟨⟨l, o0⟩, name0, ⟨⟩⟩, ys, r, ys2, ⟨vself0, _, rfl, hself0, vname0, _, rfl, hname0, rfl⟩, wd, h, kx, k⟩ := h
    rfl
  · obtain ⟨G, ⟨⟨l, o0⟩, name0, ⟨⟩⟩, ys, r, ys2, ⟨vself0, _, rfl, hself0, vname0, _, rfl, hname0, rfl⟩, wd, h, kx, k⟩ := h
    cases hname0
    have w0 : Wo G H [] G H [] := Wo.start wd.ex
    have L0 : Lent G H l (rP rS rI) ys := (Wo.startC wd).lent (i := 0) rfl
    have h : m_call (m_TableAsker_look o0) ys name0 = some (r, ys2) := h
    unfold m_call at h
    have tk := takes_of (X := cxOf (L2.CX P w) P w K mg base ["self", "name", "asked", "answer", "found"] "Asker.__call__" (defScope s_Asker___call__) (He.fAd K ("Asker", some "__call__")) cdv A outer s H E) rfl rfl rfl (E := E) rfl
    refine ⟨_, (pss_cons (ps_for (passes_of rfl) rfl (show L2.PI _ _ _ (iList K _) from pi_list (pe_fld (pv 0) rfl)) (pg_tup (by rfl) (pgs_cons (pg_name (i := 2) nd rfl (by first | exact Or.inl rfl | exact Or.inr rfl)) (pgs_cons (pg_name (i := 3) nd rfl (by first | exact Or.inl rfl | exact Or.inr rfl)) pgs_nil))) (pss_cons (ps_if (pt_cmpR op_eq (pv 2) (pv 1) (nomark _)) (pss_cons (ps_ret (pv 3)) pss_nil) pss_nil) pss_nil)) (pss_cons (ps_set (i := 4) nd rfl (Or.inl rfl) (pe_methT (pv 0) (T.cls 91 rfl) (T.meth 97 rfl) G_look (hr.mono (by decide)) b_look (passAt tk) (pa_cons (pv 1) pa_nil))) (pss_cons (ps_expr (pe_bm PySem.F.plainAttrs_list PySem.F.slot_list_append PySem.F.type_list_append mt_append (show L2.PE _ _ (tFld K _ _) from pe_fld (pv 0) (by rfl)) (pa_cons (pe_tup (pa_cons (pv 1) (pa_cons (pv 4) pa_nil))) pa_nil))) (pss_cons (ps_ret (pv 4)) pss_nil)))), ?_⟩
    obtain ⟨t1, ht1, h⟩ := bindS h
    refine x_forNE w0 L0 (e_fld (S := rA) 1 (fun (o : Addr × m_TableAsker) => o.1) (e_var (R := rS_TableAsker K) (x := (l, o0)) rfl hself0) (T.cls 91 rfl) (T.noat 93 rfl) (by decide +kernel) (fun _ => rfl)) (fun i G' H' σ' => ∃ u2 u3 : Option V, Wo G H [] G' H' [] ∧ Evl.Ex G G' ∧ σ' = [some vself0, some (V.str name0), u2, u3, none] ∧ forL (m_call_b1 name0) (ys.drop i) () = some t1) (fun _ _ _ _ ⟨_, _, w, _⟩ => w) ?_ ?_ ?_
    · intro G' H' w' e'
      exact ⟨none, none, w', e', rfl, ht1⟩
    · rintro i1 x1 v1 σ' G1 H1 hx1 ⟨u2, u3, w1, e1, rfl, hm1⟩ r1
      obtain ⟨q1, hb1, hm1⟩ := forL_at hx1 hm1
      refine g_pair (i := 2) (j := 3) r1 w1.ex ?_
      intro v2 v3 r2 r3
      cases r2
      cases r3
      unfold m_call_b1 at hb1
      obtain ⟨b4, hx4, hb1⟩ := bindS hb1
      refine x_if w1 (et_T (e_op rr_eqS (e_var (R := rS) (x := x1.1) rfl rfl) (e_var (R := rS) (x := name0) rfl rfl))) hx4 ?_ ?_
      · intro hbb4 H5 w5
        subst hbb4
        have hb1 := bifT hb1
        cases hb1
        have hm1 : some (Sum.inr x1.2) = some t1 := hm1
        cases hm1
        have h : some ((Sum.inr x1.2 : Xn ⊕ Int), ys) = some (r, ys2) := h
        cases h
        refine x_ret w5 (e_var (R := rI) (x := x1.2) rfl rfl) rfl (fun v9 H9 G9 w9 e9 r9 => ?_)
        have w10 := Wo.own1 w9 L0
        exact k _ rfl v9 H9 G9 w10.f (w10.sub1 (i := 0) rfl) r9
      · intro hbb4 H5 w5
        subst hbb4
        have hb1 := bifF hb1
        refine x_next ?_
        refine x_next ?_
        have hb1 : Stp.nx () = q1 := Option.some.inj hb1
        subst hb1
        exact ⟨G1, _, _, w5, e1, rfl, hm1⟩
    · rintro σ' G1 H1 ⟨u2, u3, w1, e1, rfl, hm1⟩
      have hm1 := forL_end hm1
      subst hm1
      have h := elimL h
      have h1 := Rep.mono _ e1 hself0
      obtain ⟨r2, hx2, h⟩ := bindS h
      refine x_setX w1 (ex_methB (ad := fun i => i.1.1) (e_var (R := rS_TableAsker K) (x := (l, o0)) rfl h1) (ea_cons (e_var (R := rS) (x := name0) rfl rfl) ea_nil) (w1.lentOf L0 List.not_mem_nil) (fun _ _ h1 _ => by cases h1; rfl) (by decide +kernel)) hx2 ?_ ?_
      · intro e3 he3 d3 H3 G3 w3 e4 xa3
        subst he3
        have h := sumL h
        have h : some ((Sum.inl e3 : Xn ⊕ Int), ys) = some (r, ys2) := h
        cases h
        have w10 := Wo.own1 w3 L0
        exact kx _ rfl d3 H3 G3 w10.f (w10.sub1 (i := 0) rfl) xa3
      · intro x3 he3 v3 H3 G3 w3 e4 r3
        subst he3
        have h := sumR h
        cases r3
        obtain ⟨a5, hx5, h⟩ := bindS h
        have h : some ((Sum.inr x3 : Xn ⊕ Int), a5) = some (r, ys2) := h
        cases h
        obtain ⟨hs5, rfl⟩ := appM_ok hx5
        have w4 := Wo.own1 w3 L0
        have h4 := Rep.mono _ e4 h1
        refine x_appE (j := 0) w4 rfl hs5 (e_fld (S := rA) 1 (fun (o : Addr × m_TableAsker) => o.1) (e_var (R := rS_TableAsker K) (x := (l, o0)) rfl h4) (T.cls 91 rfl) (T.noat 93 rfl) (by decide +kernel) (fun _ => rfl)) (e_pair (e_var (R := rS) (x := name0) rfl rfl) (e_var (R := rI) (x := x3) rfl rfl)) rfl ?_
        intro H6 G6 w6 e6
        exact x_ret w6 (e_var (R := rI) (x := x3) rfl rfl) rfl (fun v9 H9 G9 w9 e9 r9 => k _ rfl v9 H9 G9 w9.f (w9.sub1 (i := 0) rfl) r9)
theorem ns9_TableAsker : NdefX.NScope ["self", "order", "table", "allowed", "__class__"] ["self", "order", "table", "allowed"] ["__class__"] (defScope s_TableAsker___init__) := NdefX.nscope_by (by decide +kernel)
def m_TableAsker___init__ (order0 : m_Order) (table0 : List (Str × Int)) (allowed0 : Option (List Str)) : Option m_TableAsker := some (order0, table0, allowed0)
theorem ok_TableAsker___init__ (T : Tx K mg) : ∃ fd, FnOk P w K mg base CX0 2 (xcAd K "TableAsker") fd ["self", "order", "table", "allowed"] (PIAT (He.ga K "TableAsker") (r_Order K) (rM Sum.inr rI) (rO (rL rS)) (rP rS rI) ns_TableAsker (fl_TableAsker K) m_TableAsker___init__) ∧ Binds K fd ["self", "order", "table", "allowed"] [] ∧ Binds K fd ["self", "order", "table", "allowed"] [.none] := by
  obtain ⟨fd, cc, c, Y⟩ := SpD.known (T.spd 0 rfl).1 (T.spd 0 rfl).2 (fr_super T) (by decide +kernel) (by decide +kernel) (by decide +kernel) rfl (by decide +kernel)
  obtain ⟨fdg, Gg, bg⟩ := ok_Asker___init___TableAsker (w := w) (base := base) T
  refine ⟨fd, ?_, ?_, ?_⟩
  · refine fn_sup (k := 1) ns9_TableAsker Y Gg bg rfl (fun _ => rfl) (fun _ => rfl) (fun _ => rfl) (fun _ => rfl) (fun vs H Q E h => ?_) (fun A outer s H vs Q E hr h => ?_)
    · obtain ⟨G, l, vo, vt, va, order0, table0, allowed0, r, rfl, wd, ho, ht, ha, h, k⟩ := h
      rfl
    · obtain ⟨G, l, vo, vt, va, order0, table0, allowed0, r, rfl, wd, ho, ht, ha, h, k⟩ := h
      have h : some (order0, table0, allowed0) = some r := h
      cases h
      obtain ⟨_, o, hol, dx, fs, rfl, hfl⟩ := wd.head
      refine ⟨l, _, dx, fs, rfl, hol, _, _, pa_cons (pe_var (i := 1) rfl (Or.inl rfl)) pa_nil, PSs.nox (pss_cons (ps_fld (pe_var (i := 0) rfl (Or.inl rfl)) (pe_callTy (r := rDcD) call_dictD (by rfl) (fr_dict T) (by decide +kernel) (pa_cons (pe_var (i := 2) rfl (Or.inl rfl)) pa_nil)) rfl) (pss_cons (ps_fld (pe_var (i := 0) rfl (Or.inl rfl)) pe_non rfl) (pss_cons (ps_if (pt_cmpR op_notN (pe_var (i := 3) rfl (Or.inl rfl)) pe_non (nomark _)) (pss_cons (ps_fld (pe_var (i := 0) rfl (Or.inl rfl)) (pe_callTy (r := rLs K) call_list_of (by rfl) (fr_list T) (by decide +kernel) (pa_cons (pe_var (i := 3) rfl (Or.inl rfl)) pa_nil)) rfl) pss_nil) pss_nil) pss_nil))), ?_⟩
      refine o_cons (o_var rfl (o_nil ?_))
      refine ⟨G, l, [vo], (order0, ()), order0, rfl, wd, ⟨_, _, rfl, ho, rfl⟩, rfl, fun H2 G2 p np fr w2 => ?_⟩
      have w3 : Wo G H [l] G2 H2 [(p, cL (rP rS rI) []), (l, cI (He.ga K "TableAsker") ["order", "asks"] [pd (r_Order K) order0, pd rA p])] := ⟨w2, fr, fun c hc => by
        rcases List.mem_cons.mp hc with rfl | hc
        · exact .inr np
        · rw [List.mem_singleton.mp hc]; exact .inl (List.mem_singleton.mpr rfl)⟩
      have kp : (rM Sum.inr rI).r H2 vt table0 := keepM scI ht fun a ws h => fr.fr a _ h (by
        intro z
        rw [List.mem_singleton.mp z, hol] at h
        cases h)
      refine x_fldN (j := 1) w3 rfl rfl (EC.e fzM (EC.s scI w3.ex (ec_dictM (e_var (i := 2) (v := vt) (R := rM Sum.inr rI) (x := table0) rfl kp)))) rfl (T.cls 91 rfl) (T.noat 94 rfl) (by decide +kernel) (by decide) ?_
      intro H4 G4 w4 e4
      refine x_fldN (j := 1) w4 rfl rfl (e_none (R := rL rS)) rfl (T.cls 91 rfl) (T.noat 95 rfl) (by decide +kernel) (by decide) ?_
      intro H5 G5 w5 e5
      have kl : ∀ H' G', Fr G H G' H' [l] → (rO (rL rS)).r H' va allowed0 := fun H' G' f => keepO ha fun y h => keepL scS h fun a ws h => f.fr a _ h (by
        intro z
        rw [List.mem_singleton.mp z, hol] at h
        cases h)
      refine x_if w5 (et_T (e_op (rr_notN nnL) (e_var (i := 3) (R := rO (rL rS)) (x := allowed0) rfl (kl _ _ w5.f)) e_non)) rfl ?_ ?_
      · intro hb6 H6 w6
        cases allowed0 with
        | none => cases hb6
        | some al =>
          refine x_fldU (j := 1) (n := 3) w6 rfl rfl (e_some (EL.e (EL.s scS (el_cb rc_listL (ea_cons (e_var (i := 3) (R := rL rS) (x := al) rfl (kl _ _ w6.f)) ea_nil))))) rfl (T.cls 91 rfl) (T.noat 95 rfl) (by decide +kernel) (by decide) ?_
          intro H7 G7 w7 e7
          refine x_next ?_
          exact k _ _ p np w7.f w7.w
      · intro hb6 H6 w6
        cases allowed0 with
        | some al => cases hb6
        | none =>
          refine x_next ?_
          exact k _ _ p np w6.f w6.w
  · obtain ⟨ds, hds, b⟩ := Y.binds1 4 1 (by intro z; cases z) rfl (fun T kV doc pm an ct us its h1 h2 => match us, h1, its, h2 with | [_, _, _, _], _, [_], _ => ⟨_, rfl, rfl⟩)
    cases hds
    exact b
  · obtain ⟨ds, hds, b⟩ := Y.binds1 3 0 (by intro z; cases z) rfl (fun T kV doc pm an ct us its h1 h2 => match us, h1, its, h2 with | [_, _, _], _, [_], _ => ⟨_, rfl, rfl⟩)
    cases hds with
    | cons h1 h2 =>
      cases h1
      cases h2
      exact b
def m_evaluate_side (side0 : Sd) (name0 : Str) (asker0 : m_TableAsker) (ys0 : (List (Str × Int))) : Option ((Xn ⊕ m_Record) × (List (Str × Int))) :=
  (callSd 50 side0 (fun ys nm => m_call (m_TableAsker_look asker0) ys nm) asker0.1 ys0 >>= fun x2362 => Sum.elim (fun e2366 => some ((Sum.inl e2366 : Xn ⊕ m_Record), x2362.2)) (fun v2374 => ((m_Order___contains__ asker0.1 v2374 >>= fun z => some (!z)) >>= fun b2382 => bif b2382 then (some v2374 >>= fun a2386 => some ((Sum.inl ⟨"NotElement", [("value", .int a2386)]⟩ : Xn ⊕ m_Record), x2362.2)) else (m_Record___init___C name0 x2362.2 v2374 >>= fun a2390 => some ((Sum.inr a2390 : Xn ⊕ m_Record), x2362.2)))) x2362.1)
theorem sc_evaluate_side : FnScope ["side", "name", "asker", "result"] ["side", "name", "asker"] (defScope s_evaluate_side) := ⟨rfl, rfl, rfl, by decide +kernel, rfl, by decide +kernel, by decide +kernel⟩
theorem ok_evaluate_side (T : Tx K mg) : Fk P w K mg base (L2.CX P w) 62 "evaluate_side" ["side", "name", "asker"] (PXA K (aC (rSdL w K mg base) (aC rS (aC (rS_TableAsker K) aN))) (fun i => i.2.2.1.1) (rP rS rI) (r_Record K) (fun i ys => m_evaluate_side i.1 i.2.1 i.2.2.1.2 ys)) := by
  obtain ⟨fd_Asker___call___TableAsker, G_Asker___call___TableAsker, b_Asker___call___TableAsker⟩ := ok_Asker___call___TableAsker (w := w) (base := base) T
  obtain ⟨fd_Order___contains__, G_Order___contains__, b_Order___contains__⟩ := ok_Order___contains__ (w := w) (base := base) T
  obtain ⟨fd_Record___init___C, G_Record___init___C, b_Record___init___C⟩ := ok_Record___init___C (w := w) (base := base) T
  obtain ⟨fI_NotElement, b_NotElement, F_NotElement⟩ := okx_NotElement (w := w) (base := base) T
  have Y_NotElement := known_NotElement T
  have g_NotElement := T.glo 3 rfl
  obtain ⟨fd, F⟩ := T.def_ 4 rfl
  have nd := sc_evaluate_side.nd
  refine fk_mk T.toTx (x := "evaluate_side") (T.glo 14 rfl) F (fun _ _ _ _ _ _ us hl => match us, hl with | [_, _, _], _ => rfl) (F.ok sc_evaluate_side (fun vs H Q E h => ?_) (fun cdv A outer s H vs Q E hr h => ?_))
  · obtain ⟨G, ⟨side0, name0, ⟨la, asker0⟩, ⟨⟩⟩, ys0, r, k', ⟨vside0, _, rfl, hside0, vname0, _, rfl, hname0, vasker0, _, rfl, hasker0, rfl⟩, wd, h, kx, k⟩ := h
    rfl
  · obtain ⟨G, ⟨side0, name0, ⟨la, asker0⟩, ⟨⟩⟩, ys0, r, k', ⟨vside0, _, rfl, hside0, vname0, _, rfl, hname0, vasker0, _, rfl, hasker0, rfl⟩, wd, h, kx, k⟩ := h
    cases hname0
    have e0 : Evl.Ex G H := wd.ex
    have w0 : Wo G H [la] G H _ := Wo.startC wd
    have h : m_evaluate_side side0 name0 asker0 ys0 = some (r, k') := h
    unfold m_evaluate_side at h
    have tk := takes_of (X := cxOf (L2.CX P w) P w K mg base ["side", "name", "asker", "result"] "evaluate_side" (defScope s_evaluate_side) (He.fAd K ("evaluate_side", none)) cdv A outer s H E) rfl rfl rfl (E := E) rfl
    refine ⟨_, (pss_cons (ps_set (i := 3) nd rfl (Or.inl rfl) (LamF.pe_callK (CX := L2.CX P w) (Ez := fun _ => E) (k := 50 + 10) (i := 0) rfl (Or.inl rfl) (hr.mono (by decide)) (fun σ => passAt tk σ) (pa_cons (pv 2) pa_nil))) (pss_cons (ps_if (pt_cmpR (op_notInO G_Order___contains__ (hr.mono (by decide)) (T.meth 96 rfl) b_Order___contains__) (pv 3) (show L2.PE _ _ (tFld K _ _) from pe_fld (pv 2) (by rfl)) (by rfl)) (pss_cons (ps_raise rfl tk (pmk_oex Y_NotElement.oex Y_NotElement.ini Y_NotElement.ty F_NotElement (hr.mono (by decide)) b_NotElement .nil pass0 rfl g_NotElement (pa_cons (pv 3) pa_nil))) pss_nil) pss_nil) (pss_cons (ps_ret (pe_make (T.mkr 99 rfl) G_Record___init___C (hr.mono (by decide)) rfl (T.glo 11 rfl) b_Record___init___C .nil pass0 (pa_cons (pv 1) (pa_cons (pe_fld (pv 2) rfl) (pa_cons (pv 3) pa_nil))))) pss_nil))), ?_⟩
    refine x_setO ?_
    obtain ⟨f2358, sok23590, sok2359⟩ := id hside0
    cases sok23590
    obtain ⟨qa, qdx, qfs, qe, qi, qp⟩ := id hasker0
    cases qe
    have A2360 := (ask_obj (C := He.ga K "TableAsker") (ad := fun (p : Addr × m_TableAsker) => p.1) (mc := fun p ys nm => m_call (m_TableAsker_look p.2) ys nm) (T.meth 98 rfl) (fnm_ok (T.mo 14 rfl)) (by rw [eqm_ok (T.mo 15 rfl)]; exact G_Asker___call___TableAsker) b_Asker___call___TableAsker (x := (la, asker0)) hasker0 ⟨_, _, qi⟩).lev (show 4 ≤ 8 by decide)
    have ho2361 := rAt_of (S := r_Order K) (f := "order") hasker0 (T.cls 91 rfl) (T.noat 92 rfl) (i := 0) (by decide +kernel) rfl
    refine o_callK w0 rfl sok2359.cb ?_
    refine o_cons ?_
    refine o_var rfl ?_
    refine o_nil ?_
    obtain ⟨x2362, hx2363, h⟩ := bindS h
    obtain ⟨hl2364, hc2365⟩ := callSd_of hx2363
    refine c_sideN (ci := fun ys => [(la, cL (rP rS rI) ys)]) (s := ys0) w0 (Evl.Ex.refl _) 0 w0 rfl (SideOk.lev sok2359 hl2364) A2360 ho2361 hc2365 ?_ ?_
    · intro e2366 he2367 d2368 H2369 G2370 w2371 e2372 xa2373
      have h : Sum.elim _ _ x2362.1 = _ := h
      rw [he2367] at h
      have h := elimL h
      have w2371 : Wo G H [la] G2370 H2369 [(la, cL (rP rS rI) x2362.2)] := w2371
      obtain ⟨h8, h9⟩ : (Sum.inl e2366 : Xn ⊕ m_Record) = r ∧ x2362.2 = k' := Prod.mk.inj (Option.some.inj h)
      subst h8
      subst h9
      exact kx _ rfl d2368 H2369 G2370 w2371.f (w2371.sub1 (i := 0) rfl) xa2373
    · intro v2374 hv2375 H2376 G2377 w2378 e2379
      have h : Sum.elim _ _ x2362.1 = _ := h
      rw [hv2375] at h
      have h := elimR h
      have h2380 := Rep.mono _ e2379 hside0
      have h2381 := Rep.mono _ e2379 hasker0
      have w2378 : Wo G H [la] G2377 H2376 [(la, cL (rP rS rI) x2362.2)] := w2378
      obtain ⟨b2382, hx2383, h⟩ := bindS h
      refine x_if w2378 (et_T (e_op (rr_inO (g := (!·))) (e_var (R := rI) (x := v2374) rfl rfl) (e_fld 0 (fun (o : Addr × m_TableAsker) => o.2.1) (e_var (R := rS_TableAsker K) (x := (la, asker0)) rfl (Rep.mono _ w2378.ex h2381)) (T.cls 91 rfl) (T.noat 92 rfl) (by decide +kernel) (fun _ => rfl)))) hx2383 ?_ ?_
      · intro hbb2382 H2384 w2385
        subst hbb2382
        have h := bifT h
        obtain ⟨a2386, hx2387, h⟩ := bindS h
        obtain ⟨h8, h9⟩ : (Sum.inl ⟨"NotElement", [("value", .int a2386)]⟩ : Xn ⊕ m_Record) = r ∧ x2362.2 = k' := Prod.mk.inj (Option.some.inj h)
        subst h8
        subst h9
        refine x_raise (A := (aC rI aN)) (i := (a2386, ())) w2385 (ea_cons (e_var (R := rI) (x := v2374) rfl rfl) ea_nil) (by first | (simp only [hx2387, Option.bind_eq_bind, Option.bind_some]) | (cases hx2387; rfl)) (fun G9 vs9 r9 => by obtain ⟨u0, _, rfl, q0, rfl⟩ := r9; exact ⟨rfl, by simp⟩) ?_
        intro vs9 H9 G9 d9 w9 r9 e9 hd9
        obtain ⟨u0, _, rfl, q0, rfl⟩ := r9
        exact kx _ rfl d9 H9 G9 w9.f (w9.sub1 (i := 0) rfl) (Xat_mk (names := ["value"]) (xs := [.int a2386]) (by decide) hd9 (.cons q0 .nil))
      · intro hbb2382 H2388 w2389
        subst hbb2382
        have h := bifF h
        refine x_next ?_
        obtain ⟨a2390, hx2391, h⟩ := bindS h
        obtain ⟨h8, h9⟩ : (Sum.inr a2390 : Xn ⊕ m_Record) = r ∧ x2362.2 = k' := Prod.mk.inj (Option.some.inj h)
        subst h8
        subst h9
        exact x_ret w2389 (e_makeBS (ea_cons (e_var (R := rS) (x := name0) rfl rfl) (ea_cons (e_fld (S := rA) 1 (fun (o : Addr × m_TableAsker) => o.1) (e_var (R := rS_TableAsker K) (x := (la, asker0)) rfl h2381) (T.cls 91 rfl) (T.noat 93 rfl) (by decide +kernel) (fun _ => rfl)) (ea_cons (e_var (R := rI) (x := v2374) rfl rfl) ea_nil))) (w2389.lent (i := 0) rfl) (fun _ h => by cases h; rfl)) (by first | (simp only [be1, bs1, ba1] at hx2391 ⊢; exact hx2391) | exact hx2391) (fun v9 H9 G9 w9 e9 r9 => k _ rfl v9 H9 G9 w9.f (w9.sub1 (i := 0) rfl) r9)
theorem sd_fnStop (T : Tx K mg) {G : Hp} : (rSdL w K mg base).r G (.ref (He.ga K "_law_stop")) .fnStop := by
  obtain ⟨fd_, G_, b_, k_, g_⟩ := ok__law_stop (w := w) (base := base) (n := 8) T
  exact ⟨_, rfl, SideOk.congr (SideOk.lev (side_def G_ b_ k_) (by show _ ≤ 20; decide)) (fun ask o s => rfl)⟩
theorem sq_fnStop (T : Tx K mg) {G : Hp} : (rSq w K mg base).r G (.ref (He.ga K "_law_stop")) .fnStop := sq_fn (sd_fnStop T) rfl rfl (.inr (T.mo 16 rfl))
def m__law_part (pot_here0 : (List Int)) (names_here0 : (List Str)) (size0 : Int) (kinds0 : Int) : Option ((Str × Str × Int × Int × Unit) × (List Int)) :=
  (some ([("tell" : Str), ("copy" : Str), ("gate" : Str), ("bad" : Str), ("twin" : Str), ("plain" : Str), ("raise" : Str)]) >>= fun x2392 => (some kinds0 >>= fun x2402 => (m__law_draw pot_here0 x2402 >>= fun x2407 => (atI x2392 x2407.1 >>= fun x2417 => (some names_here0 >>= fun x2427 => (some (names_here0.length : Int) >>= fun x2437 => (m__law_draw x2407.2 x2437 >>= fun x2442 => (atI x2427 x2442.1 >>= fun x2452 => (some size0 >>= fun x2462 => (m__law_draw x2442.2 x2462 >>= fun x2467 => ((some (decide (x2417 = ("bad" : Str))) >>= fun b2476 => bif b2476 then ((powM (10 : Int) (17 : Int) >>= fun t2521 => some ([size0, (size0 + (3 : Int)), t2521, (-(1 : Int))])) >>= fun x2522 => (some (4 : Int) >>= fun x2532 => (m__law_draw x2467.2 x2532 >>= fun x2537 => (atI x2522 x2537.1 >>= fun x2547 => some (x2537.2, x2547))))) else some (x2467.2, x2467.1)) >>= fun s2513 => (some x2417 >>= fun x2562 => (some x2452 >>= fun x2567 => (some size0 >>= fun x2572 => (m__law_draw s2513.1 x2572 >>= fun x2577 => (some s2513.2 >>= fun x2587 => some ((x2562, x2567, x2577.1, x2587, ()), x2577.2)))))))))))))))))
theorem sc__law_part : FnScope ["_law_pot_here", "_law_names_here", "_law_size", "_law_kinds", "_law_kind", "_law_name", "_law_value"] ["_law_pot_here", "_law_names_here", "_law_size", "_law_kinds"] (defScope s__law_part) := ⟨rfl, rfl, rfl, by decide +kernel, rfl, by decide +kernel, by decide +kernel⟩
theorem ok__law_part (T : Tx K mg) : Fk P w K mg base CX0 2 "_law_part" ["_law_pot_here", "_law_names_here", "_law_size", "_law_kinds"] (P1 (aC (rL rS) (aC rI (aC rI aN))) rI (rTup (aC rS (aC rS (aC rI (aC rI aN))))) (fun ys i => m__law_part ys i.1 i.2.1 i.2.2.1)) := by
  obtain ⟨fd__law_draw, G__law_draw, b__law_draw, k__law_draw, g__law_draw⟩ := ok__law_draw (w := w) (base := base) T
  obtain ⟨fd, F⟩ := T.def_ 40 rfl
  have nd := sc__law_part.nd
  refine fk_mk T.toTx (x := "_law_part") (T.glo 40 rfl) F (fun _ _ _ _ _ _ us hl => match us, hl with | [_, _, _, _], _ => rfl) (F.ok sc__law_part (fun vs H Q E h => ?_) (fun cdv A outer s H vs Q E hr h => ?_))
  · obtain ⟨G, ⟨l, ⟨names_here0, size0, kinds0, ⟨⟩⟩⟩, pot_here0, r, k', ⟨_, _, rfl, rfl, ⟨vnames_here0, _, rfl, hnames_here0, vsize0, _, rfl, hsize0, vkinds0, _, rfl, hkinds0, rfl⟩⟩, wd, h, k⟩ := h
    rfl
  · obtain ⟨G, ⟨l, ⟨names_here0, size0, kinds0, ⟨⟩⟩⟩, pot_here0, r, k', ⟨_, _, rfl, rfl, ⟨vnames_here0, _, rfl, hnames_here0, vsize0, _, rfl, hsize0, vkinds0, _, rfl, hkinds0, rfl⟩⟩, wd, h, k⟩ := h
    cases hsize0
    cases hkinds0
    have e0 : Evl.Ex G H := wd.ex
    have w0 : Wo G H [l] G H _ := Wo.startC wd
    have h : m__law_part pot_here0 names_here0 size0 kinds0 = some (r, k') := h
    unfold m__law_part at h
    refine ⟨_, PSs.nox (pss_cons (ps_set (i := 4) nd rfl (Or.inl rfl) (pe_ix (r := rIxL K) ix_list (pe_lst (pa_cons pe_str (pa_cons pe_str (pa_cons pe_str (pa_cons pe_str (pa_cons pe_str (pa_cons pe_str (pa_cons pe_str pa_nil)))))))) (pe_call G__law_draw (hr.mono (by decide)) rfl g__law_draw k__law_draw b__law_draw .nil pass0 (pa_cons (pv 0) (pa_cons (pv 3) pa_nil))) (fun _ _ => rfl))) (pss_cons (ps_set (i := 5) nd rfl (Or.inl rfl) (pe_ix (r := rIxL K) ix_list (pv 1) (pe_call G__law_draw (hr.mono (by decide)) rfl g__law_draw k__law_draw b__law_draw .nil pass0 (pa_cons (pv 0) (pa_cons (pe_callB (r := rLn K) call_len_seq (by rfl) (fr_len T) (by decide +kernel) (pa_cons (pv 1) pa_nil)) pa_nil))) (fun _ _ => rfl))) (pss_cons (ps_set (i := 6) nd rfl (Or.inl rfl) (pe_call G__law_draw (hr.mono (by decide)) rfl g__law_draw k__law_draw b__law_draw .nil pass0 (pa_cons (pv 0) (pa_cons (pv 2) pa_nil)))) (Evl.pss_cut (ps_if (pt_cmpR op_eq (pv 4) pe_str (nomark _)) (pss_cons (ps_set (i := 6) nd rfl (Or.inl rfl) (pe_ix (r := rIxL K) ix_list (pe_lst (pa_cons (pv 2) (pa_cons (pe_op op_add (pv 2) pe_int) (pa_cons (pe_op op_pow pe_int pe_int) (pa_cons (pe_un un_neg pe_int) pa_nil))))) (pe_call G__law_draw (hr.mono (by decide)) rfl g__law_draw k__law_draw b__law_draw .nil pass0 (pa_cons (pv 0) (pa_cons pe_int pa_nil))) (fun _ _ => rfl))) pss_nil) pss_nil) (pss_cons (ps_ret (pe_tup (pa_cons (pv 4) (pa_cons (pv 5) (pa_cons (pe_call G__law_draw (hr.mono (by decide)) rfl g__law_draw k__law_draw b__law_draw .nil pass0 (pa_cons (pv 0) (pa_cons (pv 2) pa_nil))) (pa_cons (pv 6) pa_nil)))))) pss_nil))))), ?_⟩
    refine x_setO ?_
    refine o_op ?_
    obtain ⟨x2392, hx2393, h⟩ := bindS h
    refine c_e w0 (EL.e (el_disp (eal_cons e_str (eal_cons e_str (eal_cons e_str (eal_cons e_str (eal_cons e_str (eal_cons e_str (eal_cons e_str eal_nil))))))))) hx2393 ?_
    intro v2396 H2394 G2397 w2395 e2398 h2399
    have h2400 := Rep.mono _ e2398 hnames_here0
    refine o_call ?_
    refine o_cons ?_
    refine o_var rfl ?_
    refine o_cons ?_
    obtain ⟨x2402, hx2403, h⟩ := bindS h
    refine c_i w2395 (e_var (R := rI) (x := kinds0) rfl rfl) hx2403 ?_
    intro H2404 w2405
    refine o_nil ?_
    obtain ⟨x2407, hx2408, h⟩ := bindS h
    refine c_p1 (i := 0) (j := (x2402, ())) w2405 rfl ⟨_, _, rfl, rfl, rfl⟩ hx2408 ?_
    intro u2409 H2410 G2411 w2412 e2413 r2414
    have h2415 := Rep.mono _ e2413 h2400
    have h2416 := Rep.mono _ e2413 h2399
    cases r2414
    have w2412 : Wo G H [l] G2411 H2410 [(l, cL rI x2407.2)] := w2412
    obtain ⟨x2417, hx2418, h⟩ := bindS h
    refine c_rr rr_ixL w2412 h2416 rfl hx2418 ?_
    intro u2419 H2420 G2421 w2422 e2423 r2424
    have h2425 := Rep.mono _ e2423 h2415
    have h2426 := Rep.mono _ e2423 h2416
    cases r2424
    refine x_setO ?_
    refine o_op ?_
    obtain ⟨x2427, hx2428, h⟩ := bindS h
    refine c_e w2422 (e_var (R := (rL rS)) (x := names_here0) rfl h2425) hx2428 ?_
    intro v2431 H2429 G2432 w2430 e2433 h2434
    have h2435 := Rep.mono _ e2433 h2425
    refine o_call ?_
    refine o_cons ?_
    refine o_var rfl ?_
    refine o_cons ?_
    obtain ⟨x2437, hx2438, h⟩ := bindS h
    refine c_i w2430 (e_cb rc_lenL (ea_cons (e_var (R := (rL rS)) (x := names_here0) rfl h2435) ea_nil)) hx2438 ?_
    intro H2439 w2440
    refine o_nil ?_
    obtain ⟨x2442, hx2443, h⟩ := bindS h
    refine c_p1 (i := 0) (j := (x2437, ())) w2440 rfl ⟨_, _, rfl, rfl, rfl⟩ hx2443 ?_
    intro u2444 H2445 G2446 w2447 e2448 r2449
    have h2450 := Rep.mono _ e2448 h2435
    have h2451 := Rep.mono _ e2448 h2434
    cases r2449
    have w2447 : Wo G H [l] G2446 H2445 [(l, cL rI x2442.2)] := w2447
    obtain ⟨x2452, hx2453, h⟩ := bindS h
    refine c_rr rr_ixL w2447 h2451 rfl hx2453 ?_
    intro u2454 H2455 G2456 w2457 e2458 r2459
    have h2460 := Rep.mono _ e2458 h2450
    have h2461 := Rep.mono _ e2458 h2451
    cases r2459
    refine x_setO ?_
    refine o_call ?_
    refine o_cons ?_
    refine o_var rfl ?_
    refine o_cons ?_
    obtain ⟨x2462, hx2463, h⟩ := bindS h
    refine c_i w2457 (e_var (R := rI) (x := size0) rfl rfl) hx2463 ?_
    intro H2464 w2465
    refine o_nil ?_
    obtain ⟨x2467, hx2468, h⟩ := bindS h
    refine c_p1 (i := 0) (j := (x2462, ())) w2465 rfl ⟨_, _, rfl, rfl, rfl⟩ hx2468 ?_
    intro u2469 H2470 G2471 w2472 e2473 r2474
    have h2475 := Rep.mono _ e2473 h2460
    cases r2474
    have w2472 : Wo G H [l] G2471 H2470 [(l, cL rI x2467.2)] := w2472
    obtain ⟨s2513, hx2514, h⟩ := bindS h
    refine o_cut (fun σ' H' => ∃ G' : Hp, Wo G H [l] G' H' [(l, cL rI s2513.1)] ∧ Evl.Ex G2471 G' ∧ σ' = [some (V.ref l), some vnames_here0, some (V.int size0), some (V.int kinds0), some (V.str x2417), some (V.str x2452), some (V.int s2513.2)]) ?_ ?_
    · obtain ⟨b2476, hx2518, hx2514⟩ := bindS hx2514
      refine x_if w2472 (et_T (e_op rr_eqS (e_var (R := rS) (x := x2417) rfl rfl) e_str)) hx2518 ?_ ?_
      · intro hbb2476 H2519 w2520
        subst hbb2476
        have hx2514 := bifT hx2514
        refine x_setO ?_
        refine o_op ?_
        obtain ⟨x2522, hx2523, hx2514⟩ := bindS hx2514
        refine c_e w2520 (EL.e (el_disp (eal_cons (e_var (R := rI) (x := size0) rfl rfl) (eal_cons (e_op rr_add (e_var (R := rI) (x := size0) rfl rfl) e_int) (eal_cons (e_op rr_pow e_int e_int) (eal_cons (e_neg e_int) eal_nil)))))) (by first | (simp only [be1, bs1, ba1] at hx2523 ⊢; exact hx2523) | exact hx2523) ?_
        intro v2526 H2524 G2527 w2525 e2528 h2529
        have h2530 := Rep.mono _ e2528 h2475
        refine o_call ?_
        refine o_cons ?_
        refine o_var rfl ?_
        refine o_cons ?_
        obtain ⟨x2532, hx2533, hx2514⟩ := bindS hx2514
        refine c_i w2525 e_int hx2533 ?_
        intro H2534 w2535
        refine o_nil ?_
        obtain ⟨x2537, hx2538, hx2514⟩ := bindS hx2514
        refine c_p1 (i := 0) (j := (x2532, ())) w2535 rfl ⟨_, _, rfl, rfl, rfl⟩ hx2538 ?_
        intro u2539 H2540 G2541 w2542 e2543 r2544
        have h2545 := Rep.mono _ e2543 h2530
        have h2546 := Rep.mono _ e2543 h2529
        cases r2544
        have w2542 : Wo G H [l] G2541 H2540 [(l, cL rI x2537.2)] := w2542
        obtain ⟨x2547, hx2548, hx2514⟩ := bindS hx2514
        refine c_rr rr_ixL w2542 h2546 rfl hx2548 ?_
        intro u2549 H2550 G2551 w2552 e2553 r2554
        have h2555 := Rep.mono _ e2553 h2545
        have h2556 := Rep.mono _ e2553 h2546
        cases r2554
        refine x_next ?_
        have hx2514 : (x2537.2, x2547) = s2513 := Option.some.inj hx2514
        subst hx2514
        exact ⟨G2551, w2552, ((e2528.trans e2543).trans e2553), rfl⟩
      · intro hbb2476 H2557 w2558
        subst hbb2476
        have hx2514 := bifF hx2514
        refine x_next ?_
        have hx2514 : (x2467.2, x2467.1) = s2513 := Option.some.inj hx2514
        subst hx2514
        exact ⟨G2471, w2558, (Evl.Ex.refl _), rfl⟩
    · rintro σ' H2561 ⟨G2559, w2516, e2515, rfl⟩
      have h2560 := Rep.mono _ e2515 h2475
      refine x_retO ?_
      refine o_tup ?_
      refine o_cons ?_
      obtain ⟨x2562, hx2563, h⟩ := bindS h
      refine c_s w2516 (e_var (R := rS) (x := x2417) rfl rfl) hx2563 ?_
      intro H2564 w2565
      refine o_cons ?_
      obtain ⟨x2567, hx2568, h⟩ := bindS h
      refine c_s w2565 (e_var (R := rS) (x := x2452) rfl rfl) hx2568 ?_
      intro H2569 w2570
      refine o_cons ?_
      refine o_call ?_
      refine o_cons ?_
      refine o_var rfl ?_
      refine o_cons ?_
      obtain ⟨x2572, hx2573, h⟩ := bindS h
      refine c_i w2570 (e_var (R := rI) (x := size0) rfl rfl) hx2573 ?_
      intro H2574 w2575
      refine o_nil ?_
      obtain ⟨x2577, hx2578, h⟩ := bindS h
      refine c_p1 (i := 0) (j := (x2572, ())) w2575 rfl ⟨_, _, rfl, rfl, rfl⟩ hx2578 ?_
      intro u2579 H2580 G2581 w2582 e2583 r2584
      have h2585 := Rep.mono _ e2583 h2560
      cases r2584
      have w2582 : Wo G H [l] G2581 H2580 [(l, cL rI x2577.2)] := w2582
      refine o_cons ?_
      obtain ⟨x2587, hx2588, h⟩ := bindS h
      refine c_i w2582 (e_var (R := rI) (x := s2513.2) rfl rfl) hx2588 ?_
      intro H2589 w2590
      refine o_nil ?_
      refine c_tupN (A := (aC rS (aC rS (aC rI (aC rI aN))))) (x := (x2562, x2567, x2577.1, x2587, ())) w2590 ⟨_, _, rfl, rfl, _, _, rfl, rfl, _, _, rfl, rfl, _, _, rfl, rfl, rfl⟩ (by show 4 ≤ 1000; decide) ?_
      intro v2592 H2597 G2593 w2594 e2595 h2596
      have h2598 := Rep.mono _ e2595 h2585
      obtain ⟨h8, h9⟩ : (x2562, x2567, x2577.1, x2587, ()) = r ∧ x2577.2 = k' := Prod.mk.inj (Option.some.inj h)
      subst h8
      subst h9
      exact k _ _ _ w2594.f (w2594.sub1 (i := 0) rfl) h2596
def m__law_part_value (masks_here0 : (List Int)) (part_here0 : (Str × Str × Int × Int × Unit)) (asks0 : (List (Str × Int))) (table0 : (List (Str × Int))) : Option (Int × (List (Str × Int))) :=
  (some ((decide (part_here0.1 = ("tell" : Str))) || (decide (part_here0.1 = ("bad" : Str)))) >>= fun b2599 => bif b2599 then (some part_here0.2.2.2.1 >>= fun a2603 => some (a2603, asks0)) else (some table0 >>= fun x2607 => (some part_here0.2.1 >>= fun x2619 => (m__law_look asks0 x2607 x2619 >>= fun x2624 => (some (!(decide (part_here0.1 = ("gate" : Str)))) >>= fun b2636 => bif b2636 then (some x2624.1 >>= fun a2640 => some (a2640, x2624.2)) else (m__law_under masks_here0 part_here0.2.2.1 x2624.1 >>= fun b2644 => bif b2644 then (some part_here0.2.2.2.1 >>= fun a2648 => some (a2648, x2624.2)) else ((minL masks_here0 >>= fun t2652 => idxM (fun a b => a == b) masks_here0 t2652) >>= fun a2653 => some (a2653, x2624.2))))))))
theorem sc__law_part_value : FnScope ["_law_masks_here", "_law_part_here", "_law_asks", "_law_table", "_law_answer"] ["_law_masks_here", "_law_part_here", "_law_asks", "_law_table"] (defScope s__law_part_value) := ⟨rfl, rfl, rfl, by decide +kernel, rfl, by decide +kernel, by decide +kernel⟩
theorem ok__law_part_value (T : Tx K mg) : Fk P w K mg base CX0 2 "_law_part_value" ["_law_masks_here", "_law_part_here", "_law_asks", "_law_table"] (PM (aC (rL rI) (aC (rTup (aC rS (aC rS (aC rI (aC rI aN))))) (aC rA (aC (rM Sum.inr rI) aN)))) (fun i ys => [(i.2.2.1, cL (rP rS rI) ys)]) rI (fun i ys => m__law_part_value i.1 i.2.1 ys i.2.2.2.1)) := by
  obtain ⟨fd__law_look, G__law_look, b__law_look, k__law_look, g__law_look⟩ := ok__law_look (w := w) (base := base) T
  obtain ⟨fd__law_under, G__law_under, b__law_under, k__law_under, g__law_under⟩ := ok__law_under (w := w) (base := base) T
  obtain ⟨fd, F⟩ := T.def_ 41 rfl
  have nd := sc__law_part_value.nd
  refine fk_mk T.toTx (x := "_law_part_value") (T.glo 41 rfl) F (fun _ _ _ _ _ _ us hl => match us, hl with | [_, _, _, _], _ => rfl) (F.ok sc__law_part_value (fun vs H Q E h => ?_) (fun cdv A outer s H vs Q E hr h => ?_))
  · obtain ⟨G, ⟨masks_here0, part_here0, l, table0, ⟨⟩⟩, asks0, r, k', ⟨vmasks_here0, _, rfl, hmasks_here0, vpart_here0, _, rfl, hpart_here0, _, _, rfl, rfl, vtable0, _, rfl, htable0, rfl⟩, wd, h, k⟩ := h
    rfl
  · obtain ⟨G, ⟨masks_here0, part_here0, l, table0, ⟨⟩⟩, asks0, r, k', ⟨vmasks_here0, _, rfl, hmasks_here0, vpart_here0, _, rfl, hpart_here0, _, _, rfl, rfl, vtable0, _, rfl, htable0, rfl⟩, wd, h, k⟩ := h
    have e0 : Evl.Ex G H := wd.ex
    have w0 : Wo G H [l] G H _ := Wo.startC wd
    have h : m__law_part_value masks_here0 part_here0 asks0 table0 = some (r, k') := h
    unfold m__law_part_value at h
    refine ⟨_, PSs.nox (pss_cons (ps_if (PW.pt (pw_or (pt_cmpR op_eq (pe_ix (r := rIxT K) ix_tup (pv 1) pe_int (fun _ _ => rfl)) pe_str (nomark _)) (pw_or1 (pt_cmpR op_eq (pe_ix (r := rIxT K) ix_tup (pv 1) pe_int (fun _ _ => rfl)) pe_str (nomark _))))) (pss_cons (ps_ret (pe_ix (r := rIxT K) ix_tup (pv 1) pe_int (fun _ _ => rfl))) pss_nil) pss_nil) (pss_cons (ps_set (i := 4) nd rfl (Or.inl rfl) (pe_call G__law_look (hr.mono (by decide)) rfl g__law_look k__law_look b__law_look .nil pass0 (pa_cons (pv 2) (pa_cons (pv 3) (pa_cons (pe_ix (r := rIxT K) ix_tup (pv 1) pe_int (fun _ _ => rfl)) pa_nil))))) (pss_cons (ps_if (pt_cmpR op_ne (pe_ix (r := rIxT K) ix_tup (pv 1) pe_int (fun _ _ => rfl)) pe_str (nomark _)) (pss_cons (ps_ret (pv 4)) pss_nil) pss_nil) (pss_cons (ps_if (pt_val (pe_call G__law_under (hr.mono (by decide)) rfl g__law_under k__law_under b__law_under .nil pass0 (pa_cons (pv 0) (pa_cons (pe_ix (r := rIxT K) ix_tup (pv 1) pe_int (fun _ _ => rfl)) (pa_cons (pv 4) pa_nil))))) (pss_cons (ps_ret (pe_ix (r := rIxT K) ix_tup (pv 1) pe_int (fun _ _ => rfl))) pss_nil) pss_nil) (pss_cons (ps_ret (pe_bm PySem.F.plainAttrs_list PySem.F.slot_list_index PySem.F.type_list_index mt_index (pv 0) (pa_cons (pe_callB (r := rMin K) (cr_min rfl) (by rfl) (fr_min T) (by decide +kernel) (pa_cons (pv 0) pa_nil)) pa_nil))) pss_nil))))), ?_⟩
    obtain ⟨b2599, hx2600, h⟩ := bindS h
    refine x_if w0 (et_orP (et_T (e_op rr_eqS (e_prj (k := 0) (pr := fun i => i.1) (e_var (R := (rTup (aC rS (aC rS (aC rI (aC rI aN)))))) (x := part_here0) rfl (Rep.mono _ w0.ex hpart_here0)) (fun h => by obtain ⟨v0, _, rfl, h0, v1, _, rfl, h1, v2, _, rfl, h2, v3, _, rfl, h3, rfl⟩ := h; exact ⟨_, rfl, h0⟩)) e_str)) (et_T (e_op rr_eqS (e_prj (k := 0) (pr := fun i => i.1) (e_var (R := (rTup (aC rS (aC rS (aC rI (aC rI aN)))))) (x := part_here0) rfl (Rep.mono _ w0.ex hpart_here0)) (fun h => by obtain ⟨v0, _, rfl, h0, v1, _, rfl, h1, v2, _, rfl, h2, v3, _, rfl, h3, rfl⟩ := h; exact ⟨_, rfl, h0⟩)) e_str))) (by first | (simp only [be1, bs1, ba1] at hx2600 ⊢; exact hx2600) | exact hx2600) ?_ ?_
    · intro hbb2599 H2601 w2602
      subst hbb2599
      have h := bifT h
      obtain ⟨a2603, hx2604, h⟩ := bindS h
      obtain ⟨h8, h9⟩ : a2603 = r ∧ asks0 = k' := Prod.mk.inj (Option.some.inj h)
      subst h8
      subst h9
      exact x_ret w2602 (e_prj (k := 3) (pr := fun i => i.2.2.2.1) (e_var (R := (rTup (aC rS (aC rS (aC rI (aC rI aN)))))) (x := part_here0) rfl hpart_here0) (fun h => by obtain ⟨v0, _, rfl, h0, v1, _, rfl, h1, v2, _, rfl, h2, v3, _, rfl, h3, rfl⟩ := h; exact ⟨_, rfl, h3⟩)) (by first | (simp only [be1, bs1, ba1] at hx2604 ⊢; exact hx2604) | exact hx2604) (fun v9 H9 G9 w9 e9 r9 => k v9 H9 G9 w9.f (w9.sub1 (i := 0) rfl) r9)
    · intro hbb2599 H2605 w2606
      subst hbb2599
      have h := bifF h
      refine x_next ?_
      refine x_setO ?_
      refine o_call ?_
      refine o_cons ?_
      refine o_var rfl ?_
      refine o_cons ?_
      obtain ⟨x2607, hx2608, h⟩ := bindS h
      refine c_e w2606 (e_var (R := (rM Sum.inr rI)) (x := table0) rfl htable0) hx2608 ?_
      intro v2611 H2609 G2612 w2610 e2613 h2614
      have h2615 := Rep.mono _ e2613 hmasks_here0
      have h2616 := Rep.mono _ e2613 hpart_here0
      have h2617 := Rep.mono _ e2613 htable0
      refine o_cons ?_
      obtain ⟨x2619, hx2620, h⟩ := bindS h
      refine c_s w2610 (e_prj (k := 1) (pr := fun i => i.2.1) (e_var (R := (rTup (aC rS (aC rS (aC rI (aC rI aN)))))) (x := part_here0) rfl h2616) (fun h => by obtain ⟨v0, _, rfl, h0, v1, _, rfl, h1, v2, _, rfl, h2, v3, _, rfl, h3, rfl⟩ := h; exact ⟨_, rfl, h1⟩)) (by first | (simp only [be1, bs1, ba1] at hx2620 ⊢; exact hx2620) | exact hx2620) ?_
      intro H2621 w2622
      refine o_nil ?_
      obtain ⟨x2624, hx2625, h⟩ := bindS h
      refine c_p1 (i := 0) (j := (x2607, x2619, ())) w2622 rfl ⟨_, _, rfl, h2614, _, _, rfl, rfl, rfl⟩ hx2625 ?_
      intro u2626 H2627 G2628 w2629 e2630 r2631
      have h2632 := Rep.mono _ e2630 h2615
      have h2633 := Rep.mono _ e2630 h2616
      have h2634 := Rep.mono _ e2630 h2617
      have h2635 := Rep.mono _ e2630 h2614
      cases r2631
      have w2629 : Wo G H [l] G2628 H2627 [(l, cL (rP rS rI) x2624.2)] := w2629
      obtain ⟨b2636, hx2637, h⟩ := bindS h
      refine x_if w2629 (et_T (e_op rr_neS (e_prj (k := 0) (pr := fun i => i.1) (e_var (R := (rTup (aC rS (aC rS (aC rI (aC rI aN)))))) (x := part_here0) rfl (Rep.mono _ w2629.ex h2633)) (fun h => by obtain ⟨v0, _, rfl, h0, v1, _, rfl, h1, v2, _, rfl, h2, v3, _, rfl, h3, rfl⟩ := h; exact ⟨_, rfl, h0⟩)) e_str)) (by first | (simp only [be1, bs1, ba1] at hx2637 ⊢; exact hx2637) | exact hx2637) ?_ ?_
      · intro hbb2636 H2638 w2639
        subst hbb2636
        have h := bifT h
        obtain ⟨a2640, hx2641, h⟩ := bindS h
        obtain ⟨h8, h9⟩ : a2640 = r ∧ x2624.2 = k' := Prod.mk.inj (Option.some.inj h)
        subst h8
        subst h9
        exact x_ret w2639 (e_var (R := rI) (x := x2624.1) rfl rfl) hx2641 (fun v9 H9 G9 w9 e9 r9 => k v9 H9 G9 w9.f (w9.sub1 (i := 0) rfl) r9)
      · intro hbb2636 H2642 w2643
        subst hbb2636
        have h := bifF h
        refine x_next ?_
        obtain ⟨b2644, hx2645, h⟩ := bindS h
        refine x_if w2643 (et_B (e_call (ea_cons (e_var (R := (rL rI)) (x := masks_here0) rfl (Rep.mono _ w2643.ex h2632)) (ea_cons (e_prj (k := 2) (pr := fun i => i.2.2.1) (e_var (R := (rTup (aC rS (aC rS (aC rI (aC rI aN)))))) (x := part_here0) rfl (Rep.mono _ w2643.ex h2633)) (fun h => by obtain ⟨v0, _, rfl, h0, v1, _, rfl, h1, v2, _, rfl, h2, v3, _, rfl, h3, rfl⟩ := h; exact ⟨_, rfl, h2⟩)) (ea_cons (e_var (R := rI) (x := x2624.1) rfl rfl) ea_nil))))) (by first | (simp only [be1, bs1, ba1] at hx2645 ⊢; exact hx2645) | exact hx2645) ?_ ?_
        · intro hbb2644 H2646 w2647
          subst hbb2644
          have h := bifT h
          obtain ⟨a2648, hx2649, h⟩ := bindS h
          obtain ⟨h8, h9⟩ : a2648 = r ∧ x2624.2 = k' := Prod.mk.inj (Option.some.inj h)
          subst h8
          subst h9
          exact x_ret w2647 (e_prj (k := 3) (pr := fun i => i.2.2.2.1) (e_var (R := (rTup (aC rS (aC rS (aC rI (aC rI aN)))))) (x := part_here0) rfl h2633) (fun h => by obtain ⟨v0, _, rfl, h0, v1, _, rfl, h1, v2, _, rfl, h2, v3, _, rfl, h3, rfl⟩ := h; exact ⟨_, rfl, h3⟩)) (by first | (simp only [be1, bs1, ba1] at hx2649 ⊢; exact hx2649) | exact hx2649) (fun v9 H9 G9 w9 e9 r9 => k v9 H9 G9 w9.f (w9.sub1 (i := 0) rfl) r9)
        · intro hbb2644 H2650 w2651
          subst hbb2644
          have h := bifF h
          refine x_next ?_
          obtain ⟨a2653, hx2654, h⟩ := bindS h
          obtain ⟨h8, h9⟩ : a2653 = r ∧ x2624.2 = k' := Prod.mk.inj (Option.some.inj h)
          subst h8
          subst h9
          exact x_ret w2651 (e_bmL (rbm_index flI) (e_var (R := (rL rI)) (x := masks_here0) rfl h2632) (ea_cons (e_cb rc_minL (ea_cons (e_var (R := (rL rI)) (x := masks_here0) rfl h2632) ea_nil)) ea_nil)) (by first | (simp only [be1, bs1, ba1] at hx2654 ⊢; exact hx2654) | exact hx2654) (fun v9 H9 G9 w9 e9 r9 => k v9 H9 G9 w9.f (w9.sub1 (i := 0) rfl) r9)
def m__law_pair_due_b1 (masks_here0 : (List Int)) (x2853 : Int) (s2843 : Unit) : Option (Stp Unit PyData) :=
  (some ((decide (x2853 < (0 : Int))) || (decide ((masks_here0.length : Int) ≤ x2853))) >>= fun b2864 => bif b2864 then ((toDM (PyData.tuple ([(PyData.str ("element" : Str)), (PyData.int x2853), (PyData.int (0 : Int))]))) >>= fun a2868 => some (Stp.rt a2868)) else some (Stp.nx ()))
def m__law_pair_due (masks_here0 : (List Int)) (left0 : (Str × Str × Int × Int × Unit)) (right0 : (Str × Str × Int × Int × Unit)) (meets0 : Bool) (table0 : (List (Str × Int))) : Option PyData :=
  (some ([]) >>= fun asks_2655 => (some masks_here0 >>= fun x2667 => (some left0 >>= fun x2680 => (some table0 >>= fun x2695 => (m__law_part_value x2667 x2680 asks_2655 x2695 >>= fun x2710 => (idxM (fun a b => a == b) masks_here0 (31 : Int) >>= fun stop_here_2725 => ((some meets0 >>= fun b2729 => bif b2729 then ((minL masks_here0 >>= fun t2743 => idxM (fun a b => a == b) masks_here0 t2743) >>= fun stop_here_2744 => some stop_here_2744) else some stop_here_2725) >>= fun s2735 => (some (x2710.1 == s2735) >>= fun b2756 => bif b2756 then ((toDM (PyData.tuple ([(PyData.str ("told" : Str)), (PyData.list (List.map (fun p => PyData.tuple [PyData.str p.1, PyData.int p.2]) x2710.2)), (PyData.int x2710.1)]))) >>= fun a2768 => some a2768) else (some (decide (right0.1 = ("raise" : Str))) >>= fun b2772 => bif b2772 then ((toDM (PyData.tuple ([(PyData.str ("raised" : Str)), (PyData.str ("stranger10" : Str)), (PyData.int (0 : Int))]))) >>= fun a2776 => some a2776) else (some masks_here0 >>= fun x2780 => (some right0 >>= fun x2793 => (some table0 >>= fun x2808 => (m__law_part_value x2780 x2793 x2710.2 x2808 >>= fun x2823 => (some ([x2710.1, x2823.1]) >>= fun xs2838 => forL (m__law_pair_due_b1 masks_here0) xs2838 () >>= Sum.elim (fun s2843 => (some meets0 >>= fun b2882 => bif b2882 then ((((m__law_meet masks_here0 x2710.1 x2823.1 >>= fun t2894 => some (PyData.int t2894)) >>= fun t2895 => some ([(PyData.str ("told" : Str)), (PyData.list (List.map (fun p => PyData.tuple [PyData.str p.1, PyData.int p.2]) x2823.2)), t2895])) >>= fun t2896 => (toDM (PyData.tuple t2896))) >>= fun a2897 => some a2897) else ((((m__law_join masks_here0 x2710.1 x2823.1 >>= fun t2909 => some (PyData.int t2909)) >>= fun t2910 => some ([(PyData.str ("told" : Str)), (PyData.list (List.map (fun p => PyData.tuple [PyData.str p.1, PyData.int p.2]) x2823.2)), t2910])) >>= fun t2911 => (toDM (PyData.tuple t2911))) >>= fun a2912 => some a2912))) (fun r => some r)))))))))))))))
theorem sc__law_pair_due : FnScope ["_law_masks_here", "_law_left", "_law_right", "_law_meets", "_law_table", "_law_asks", "_law_one", "_law_stop_here", "_law_two", "_law_value"] ["_law_masks_here", "_law_left", "_law_right", "_law_meets", "_law_table"] (defScope s__law_pair_due) := ⟨rfl, rfl, rfl, by decide +kernel, rfl, by decide +kernel, by decide +kernel⟩
theorem ok__law_pair_due (T : Tx K mg) : Fk P w K mg base CX0 3 "_law_pair_due" ["_law_masks_here", "_law_left", "_law_right", "_law_meets", "_law_table"] (PF (aC (rL rI) (aC (rTup (aC rS (aC rS (aC rI (aC rI aN))))) (aC (rTup (aC rS (aC rS (aC rI (aC rI aN))))) (aC rB (aC (rM Sum.inr rI) aN))))) (rD K) (fun i => m__law_pair_due i.1 i.2.1 i.2.2.1 i.2.2.2.1 i.2.2.2.2.1)) := by
  obtain ⟨fd__law_part_value, G__law_part_value, b__law_part_value, k__law_part_value, g__law_part_value⟩ := ok__law_part_value (w := w) (base := base) T
  obtain ⟨fd__law_meet, G__law_meet, b__law_meet, k__law_meet, g__law_meet⟩ := ok__law_meet (w := w) (base := base) T
  obtain ⟨fd__law_join, G__law_join, b__law_join, k__law_join, g__law_join⟩ := ok__law_join (w := w) (base := base) T
  obtain ⟨fd, F⟩ := T.def_ 42 rfl
  have nd := sc__law_pair_due.nd
  refine fk_mk T.toTx (x := "_law_pair_due") (T.glo 42 rfl) F (fun _ _ _ _ _ _ us hl => match us, hl with | [_, _, _, _, _], _ => rfl) (F.ok sc__law_pair_due (fun vs H Q E h => ?_) (fun cdv A outer s H vs Q E hr h => ?_))
  · obtain ⟨G, ⟨masks_here0, left0, right0, meets0, table0, ⟨⟩⟩, r, e0, ⟨vmasks_here0, _, rfl, hmasks_here0, vleft0, _, rfl, hleft0, vright0, _, rfl, hright0, vmeets0, _, rfl, hmeets0, vtable0, _, rfl, htable0, rfl⟩, h, k⟩ := h
    rfl
  · obtain ⟨G, ⟨masks_here0, left0, right0, meets0, table0, ⟨⟩⟩, r, e0, ⟨vmasks_here0, _, rfl, hmasks_here0, vleft0, _, rfl, hleft0, vright0, _, rfl, hright0, vmeets0, _, rfl, hmeets0, vtable0, _, rfl, htable0, rfl⟩, h, k⟩ := h
    cases hmeets0
    have w0 := Wo.start e0
    have h : m__law_pair_due masks_here0 left0 right0 meets0 table0 = some r := h
    unfold m__law_pair_due at h
    refine ⟨_, PSs.nox (pss_cons (ps_set (i := 5) nd rfl (Or.inl rfl) (pe_lst pa_nil)) (pss_cons (ps_set (i := 6) nd rfl (Or.inl rfl) (pe_call G__law_part_value (hr.mono (by decide)) rfl g__law_part_value k__law_part_value b__law_part_value .nil pass0 (pa_cons (pv 0) (pa_cons (pv 1) (pa_cons (pv 5) (pa_cons (pv 4) pa_nil)))))) (pss_cons (ps_set (i := 7) nd rfl (Or.inl rfl) (pe_bm PySem.F.plainAttrs_list PySem.F.slot_list_index PySem.F.type_list_index mt_index (pv 0) (pa_cons pe_int pa_nil))) (Evl.pss_cut (ps_if (pt_val (pv 3)) (pss_cons (ps_set (i := 7) nd rfl (Or.inl rfl) (pe_bm PySem.F.plainAttrs_list PySem.F.slot_list_index PySem.F.type_list_index mt_index (pv 0) (pa_cons (pe_callB (r := rMin K) (cr_min rfl) (by rfl) (fr_min T) (by decide +kernel) (pa_cons (pv 0) pa_nil)) pa_nil))) pss_nil) pss_nil) (pss_cons (ps_if (pt_cmpR op_eq (pv 6) (pv 7) (nomark _)) (pss_cons (ps_ret (pe_tup (pa_cons pe_str (pa_cons (pv 5) (pa_cons (pv 6) pa_nil))))) pss_nil) pss_nil) (pss_cons (ps_if (pt_cmpR op_eq (pe_ix (r := rIxT K) ix_tup (pv 2) pe_int (fun _ _ => rfl)) pe_str (nomark _)) (pss_cons (ps_ret (pe_tup (pa_cons pe_str (pa_cons pe_str (pa_cons pe_int pa_nil))))) pss_nil) pss_nil) (pss_cons (ps_set (i := 8) nd rfl (Or.inl rfl) (pe_call G__law_part_value (hr.mono (by decide)) rfl g__law_part_value k__law_part_value b__law_part_value .nil pass0 (pa_cons (pv 0) (pa_cons (pv 2) (pa_cons (pv 5) (pa_cons (pv 4) pa_nil)))))) (pss_cons (ps_for PassesOwn.never rfl (pi_list (pe_lst (pa_cons (pv 6) (pa_cons (pv 8) pa_nil)))) (pg_name (i := 9) nd rfl (Or.inl rfl)) (pss_cons (ps_if (PW.pt (pw_or (pt_cmpR op_lt (pv 9) pe_int (nomark _)) (pw_or1 (pt_cmpR op_ge (pv 9) (pe_callB (r := rLn K) call_len_seq (by rfl) (fr_len T) (by decide +kernel) (pa_cons (pv 0) pa_nil)) (nomark _))))) (pss_cons (ps_ret (pe_tup (pa_cons pe_str (pa_cons (pv 9) (pa_cons pe_int pa_nil))))) pss_nil) pss_nil) pss_nil)) (pss_cons (ps_if (pt_val (pv 3)) (pss_cons (ps_ret (pe_tup (pa_cons pe_str (pa_cons (pv 5) (pa_cons (pe_call G__law_meet (hr.mono (by decide)) rfl g__law_meet k__law_meet b__law_meet .nil pass0 (pa_cons (pv 0) (pa_cons (pv 6) (pa_cons (pv 8) pa_nil)))) pa_nil))))) pss_nil) pss_nil) (pss_cons (ps_ret (pe_tup (pa_cons pe_str (pa_cons (pv 5) (pa_cons (pe_call G__law_join (hr.mono (by decide)) rfl g__law_join k__law_join b__law_join .nil pass0 (pa_cons (pv 0) (pa_cons (pv 6) (pa_cons (pv 8) pa_nil)))) pa_nil))))) pss_nil)))))))))), ?_⟩
    obtain ⟨asks_2655, hx2656, h⟩ := bindS h
    refine x_setL w0 (el_disp (R := (rP rS rI)) eal_nil) hx2656 ?_
    intro p2659 H2657 G2660 n2661 w2658 e2662
    have h2663 := Rep.mono _ e2662 hmasks_here0
    have h2664 := Rep.mono _ e2662 hleft0
    have h2665 := Rep.mono _ e2662 hright0
    have h2666 := Rep.mono _ e2662 htable0
    refine x_setO ?_
    refine o_call ?_
    refine o_cons ?_
    obtain ⟨x2667, hx2668, h⟩ := bindS h
    refine c_e w2658 (e_var (R := (rL rI)) (x := masks_here0) rfl h2663) hx2668 ?_
    intro v2671 H2669 G2672 w2670 e2673 h2674
    have h2675 := Rep.mono _ e2673 h2663
    have h2676 := Rep.mono _ e2673 h2664
    have h2677 := Rep.mono _ e2673 h2665
    have h2678 := Rep.mono _ e2673 h2666
    refine o_cons ?_
    obtain ⟨x2680, hx2681, h⟩ := bindS h
    refine c_e w2670 (e_var (R := (rTup (aC rS (aC rS (aC rI (aC rI aN)))))) (x := left0) rfl h2676) hx2681 ?_
    intro v2684 H2682 G2685 w2683 e2686 h2687
    have h2688 := Rep.mono _ e2686 h2675
    have h2689 := Rep.mono _ e2686 h2676
    have h2690 := Rep.mono _ e2686 h2677
    have h2691 := Rep.mono _ e2686 h2678
    have h2692 := Rep.mono _ e2686 h2674
    refine o_cons ?_
    refine o_var rfl ?_
    refine o_cons ?_
    obtain ⟨x2695, hx2696, h⟩ := bindS h
    refine c_e w2683 (e_var (R := (rM Sum.inr rI)) (x := table0) rfl h2691) hx2696 ?_
    intro v2699 H2697 G2700 w2698 e2701 h2702
    have h2703 := Rep.mono _ e2701 h2688
    have h2704 := Rep.mono _ e2701 h2689
    have h2705 := Rep.mono _ e2701 h2690
    have h2706 := Rep.mono _ e2701 h2691
    have h2707 := Rep.mono _ e2701 h2692
    have h2708 := Rep.mono _ e2701 h2687
    refine o_nil ?_
    obtain ⟨x2710, hx2711, h⟩ := bindS h
    refine c_pmJ [0] (i := (x2667, x2680, p2659, x2695, ())) (s := asks_2655) (s' := x2710.2) w2698 ⟨rfl, trivial⟩ ⟨_, _, rfl, h2707, _, _, rfl, h2708, _, _, rfl, rfl, _, _, rfl, h2702, rfl⟩ hx2711 rfl ?_
    intro u2712 H2713 G2714 w2715 e2716 r2717
    have h2718 := Rep.mono _ e2716 h2703
    have h2719 := Rep.mono _ e2716 h2704
    have h2720 := Rep.mono _ e2716 h2705
    have h2721 := Rep.mono _ e2716 h2706
    have h2722 := Rep.mono _ e2716 h2707
    have h2723 := Rep.mono _ e2716 h2708
    have h2724 := Rep.mono _ e2716 h2702
    cases r2717
    have w2715 : Wo G H [] G2714 H2713 [(p2659, cL (rP rS rI) x2710.2)] := w2715
    obtain ⟨stop_here_2725, hx2726, h⟩ := bindS h
    refine x_setI w2715 (e_bmL (rbm_index flI) (e_var (R := (rL rI)) (x := masks_here0) rfl h2718) (ea_cons e_int ea_nil)) (by first | (simp only [be1, bs1, ba1] at hx2726 ⊢; exact hx2726) | exact hx2726) ?_
    intro H2727 w2728
    obtain ⟨s2735, hx2736, h⟩ := bindS h
    refine o_cut (fun σ' H' => ∃ G' : Hp, Wo G H [] G' H' [(p2659, cL (rP rS rI) x2710.2)] ∧ Evl.Ex G2714 G' ∧ σ' = [some vmasks_here0, some vleft0, some vright0, some (V.bl meets0), some vtable0, some (V.ref p2659), some (V.int x2710.1), some (V.int s2735), none, none]) ?_ ?_
    · obtain ⟨b2729, hx2740, hx2736⟩ := bindS hx2736
      refine x_if w2728 (et_B (e_var (R := rB) (x := meets0) rfl rfl)) hx2740 ?_ ?_
      · intro hbb2729 H2741 w2742
        subst hbb2729
        have hx2736 := bifT hx2736
        obtain ⟨stop_here_2744, hx2745, hx2736⟩ := bindS hx2736
        refine x_setI w2742 (e_bmL (rbm_index flI) (e_var (R := (rL rI)) (x := masks_here0) rfl h2718) (ea_cons (e_cb rc_minL (ea_cons (e_var (R := (rL rI)) (x := masks_here0) rfl h2718) ea_nil)) ea_nil)) (by first | (simp only [be1, bs1, ba1] at hx2745 ⊢; exact hx2745) | exact hx2745) ?_
        intro H2746 w2747
        refine x_next ?_
        have hx2736 : stop_here_2744 = s2735 := Option.some.inj hx2736
        subst hx2736
        exact ⟨G2714, w2747, (Evl.Ex.refl _), rfl⟩
      · intro hbb2729 H2748 w2749
        subst hbb2729
        have hx2736 := bifF hx2736
        refine x_next ?_
        have hx2736 : stop_here_2725 = s2735 := Option.some.inj hx2736
        subst hx2736
        exact ⟨G2714, w2749, (Evl.Ex.refl _), rfl⟩
    · rintro σ' H2755 ⟨G2750, w2738, e2737, rfl⟩
      have h2751 := Rep.mono _ e2737 h2718
      have h2752 := Rep.mono _ e2737 h2719
      have h2753 := Rep.mono _ e2737 h2720
      have h2754 := Rep.mono _ e2737 h2721
      obtain ⟨b2756, hx2757, h⟩ := bindS h
      refine x_if w2738 (et_T (e_op rr_eqI (e_var (R := rI) (x := x2710.1) rfl rfl) (e_var (R := rI) (x := s2735) rfl rfl))) hx2757 ?_ ?_
      · intro hbb2756 H2758 w2759
        subst hbb2756
        have h := bifT h
        obtain ⟨G2760, w2761, e2762, h2763⟩ := w2759.freezeAt (i := 0) rfl n2661
        have h2764 := Rep.mono _ e2762 h2751
        have h2765 := Rep.mono _ e2762 h2752
        have h2766 := Rep.mono _ e2762 h2753
        have h2767 := Rep.mono _ e2762 h2754
        have w2761 : Wo G H [] G2760 H2758 [] := w2761
        obtain ⟨a2768, hx2769, h⟩ := bindS h
        have h : a2768 = r := Option.some.inj h
        subst h
        exact x_ret w2761 (e_toDT (K := K) (e_tupH (eal_cons (e_toD (K := K) e_str dtS (by decide)) (eal_cons (e_toD (K := K) (e_var (R := (rL (rP rS rI))) (x := x2710.2) rfl h2763) (dtL (dtP dtS dtI)) (by decide)) (eal_cons (e_toD (K := K) (e_var (R := rI) (x := x2710.1) rfl rfl) dtI (by decide)) eal_nil))))) hx2769 (fun v9 H9 G9 w9 e9 r9 => k v9 H9 G9 w9.upE r9)
      · intro hbb2756 H2770 w2771
        subst hbb2756
        have h := bifF h
        refine x_next ?_
        obtain ⟨b2772, hx2773, h⟩ := bindS h
        refine x_if w2771 (et_T (e_op rr_eqS (e_prj (k := 0) (pr := fun i => i.1) (e_var (R := (rTup (aC rS (aC rS (aC rI (aC rI aN)))))) (x := right0) rfl (Rep.mono _ w2771.ex h2753)) (fun h => by obtain ⟨v0, _, rfl, h0, v1, _, rfl, h1, v2, _, rfl, h2, v3, _, rfl, h3, rfl⟩ := h; exact ⟨_, rfl, h0⟩)) e_str)) (by first | (simp only [be1, bs1, ba1] at hx2773 ⊢; exact hx2773) | exact hx2773) ?_ ?_
        · intro hbb2772 H2774 w2775
          subst hbb2772
          have h := bifT h
          obtain ⟨a2776, hx2777, h⟩ := bindS h
          have h : a2776 = r := Option.some.inj h
          subst h
          exact x_ret w2775 (e_toDT (K := K) (e_tupH (eal_cons (e_toD (K := K) e_str dtS (by decide)) (eal_cons (e_toD (K := K) e_str dtS (by decide)) (eal_cons (e_toD (K := K) e_int dtI (by decide)) eal_nil))))) hx2777 (fun v9 H9 G9 w9 e9 r9 => k v9 H9 G9 w9.upE r9)
        · intro hbb2772 H2778 w2779
          subst hbb2772
          have h := bifF h
          refine x_next ?_
          refine x_setO ?_
          refine o_call ?_
          refine o_cons ?_
          obtain ⟨x2780, hx2781, h⟩ := bindS h
          refine c_e w2779 (e_var (R := (rL rI)) (x := masks_here0) rfl h2751) hx2781 ?_
          intro v2784 H2782 G2785 w2783 e2786 h2787
          have h2788 := Rep.mono _ e2786 h2751
          have h2789 := Rep.mono _ e2786 h2752
          have h2790 := Rep.mono _ e2786 h2753
          have h2791 := Rep.mono _ e2786 h2754
          refine o_cons ?_
          obtain ⟨x2793, hx2794, h⟩ := bindS h
          refine c_e w2783 (e_var (R := (rTup (aC rS (aC rS (aC rI (aC rI aN)))))) (x := right0) rfl h2790) hx2794 ?_
          intro v2797 H2795 G2798 w2796 e2799 h2800
          have h2801 := Rep.mono _ e2799 h2788
          have h2802 := Rep.mono _ e2799 h2789
          have h2803 := Rep.mono _ e2799 h2790
          have h2804 := Rep.mono _ e2799 h2791
          have h2805 := Rep.mono _ e2799 h2787
          refine o_cons ?_
          refine o_var rfl ?_
          refine o_cons ?_
          obtain ⟨x2808, hx2809, h⟩ := bindS h
          refine c_e w2796 (e_var (R := (rM Sum.inr rI)) (x := table0) rfl h2804) hx2809 ?_
          intro v2812 H2810 G2813 w2811 e2814 h2815
          have h2816 := Rep.mono _ e2814 h2801
          have h2817 := Rep.mono _ e2814 h2802
          have h2818 := Rep.mono _ e2814 h2803
          have h2819 := Rep.mono _ e2814 h2804
          have h2820 := Rep.mono _ e2814 h2805
          have h2821 := Rep.mono _ e2814 h2800
          refine o_nil ?_
          obtain ⟨x2823, hx2824, h⟩ := bindS h
          refine c_pmJ [0] (i := (x2780, x2793, p2659, x2808, ())) (s := x2710.2) (s' := x2823.2) w2811 ⟨rfl, trivial⟩ ⟨_, _, rfl, h2820, _, _, rfl, h2821, _, _, rfl, rfl, _, _, rfl, h2815, rfl⟩ hx2824 rfl ?_
          intro u2825 H2826 G2827 w2828 e2829 r2830
          have h2831 := Rep.mono _ e2829 h2816
          have h2832 := Rep.mono _ e2829 h2817
          have h2833 := Rep.mono _ e2829 h2818
          have h2834 := Rep.mono _ e2829 h2819
          have h2835 := Rep.mono _ e2829 h2820
          have h2836 := Rep.mono _ e2829 h2821
          have h2837 := Rep.mono _ e2829 h2815
          cases r2830
          have w2828 : Wo G H [] G2827 H2826 [(p2659, cL (rP rS rI) x2823.2)] := w2828
          obtain ⟨xs2838, hx2839, h⟩ := bindS h
          obtain ⟨t2841, hx2842, h⟩ := bindS h
          refine x_forL w2828 (EL.e (el_disp (eal_cons (e_var (R := rI) (x := x2710.1) rfl rfl) (eal_cons (e_var (R := rI) (x := x2823.1) rfl rfl) eal_nil)))) hx2839 (fun i G' H' σ' => ∃ s2843 : Unit, ∃ u2844 : Option V, Wo G H [] G' H' [(p2659, cL (rP rS rI) x2823.2)] ∧ Evl.Ex G2827 G' ∧ σ' = [some vmasks_here0, some vleft0, some vright0, some (V.bl meets0), some vtable0, some (V.ref p2659), some (V.int x2710.1), some (V.int s2735), some (V.int x2823.1), u2844] ∧ forL (m__law_pair_due_b1 masks_here0) (xs2838.drop i) s2843 = some t2841) (fun _ _ _ _ ⟨_, _, w, _⟩ => w.ex) ?_ ?_ ?_
          · intro G' H' w' e'
            exact ⟨(), (none), w', e', rfl, hx2842⟩
          · rintro G2855 e2856 i2852 x2853 v2857 σ' G2848 H2851 hx2854 e2859 ⟨s2843, u2844, w2849, e2850, rfl, hm2846⟩ r2858
            obtain ⟨q2847, hb2845, hm2846⟩ := forL_at hx2854 hm2846
            have h2860 := Rep.mono _ e2850 h2831
            have h2861 := Rep.mono _ e2850 h2832
            have h2862 := Rep.mono _ e2850 h2833
            have h2863 := Rep.mono _ e2850 h2834
            refine g_name ?_
            cases r2858
            unfold m__law_pair_due_b1 at hb2845
            obtain ⟨b2864, hx2865, hb2845⟩ := bindS hb2845
            refine x_if w2849 (et_orP (et_T (e_op rr_lt (e_var (R := rI) (x := x2853) rfl rfl) e_int)) (et_T (e_op rr_ge (e_var (R := rI) (x := x2853) rfl rfl) (e_cb rc_lenL (ea_cons (e_var (R := (rL rI)) (x := masks_here0) rfl (Rep.mono _ w2849.ex h2860)) ea_nil))))) hx2865 ?_ ?_
            · intro hbb2864 H2866 w2867
              subst hbb2864
              have hb2845 := bifT hb2845
              obtain ⟨a2868, hx2869, hb2845⟩ := bindS hb2845
              have hb2845 : some (Stp.rt a2868) = some q2847 := hb2845
              cases hb2845
              have hm2846 : some (Sum.inr a2868) = some t2841 := hm2846
              cases hm2846
              have h : a2868 = r := Option.some.inj h
              subst h
              exact x_ret w2867 (e_toDT (K := K) (e_tupH (eal_cons (e_toD (K := K) e_str dtS (by decide)) (eal_cons (e_toD (K := K) (e_var (R := rI) (x := x2853) rfl rfl) dtI (by decide)) (eal_cons (e_toD (K := K) e_int dtI (by decide)) eal_nil))))) hx2869 (fun v9 H9 G9 w9 e9 r9 => k v9 H9 G9 w9.upE r9)
            · intro hbb2864 H2870 w2871
              subst hbb2864
              have hb2845 := bifF hb2845
              refine x_next ?_
              refine x_next ?_
              have hb2845 : Stp.nx () = q2847 := Option.some.inj hb2845
              subst hb2845
              exact ⟨G2848, (e2859.trans (Evl.Ex.refl _)), (), (some (V.int x2853)), w2871, e2850, rfl, hm2846⟩
          · rintro σ' G2872 H2875 e2876 ⟨s2843, u2844, w2873, e2874, rfl, hm2846⟩
            have hm2846 := forL_end hm2846
            subst hm2846
            have h := elimL h
            have h2878 := Rep.mono _ e2874 h2831
            have h2879 := Rep.mono _ e2874 h2832
            have h2880 := Rep.mono _ e2874 h2833
            have h2881 := Rep.mono _ e2874 h2834
            obtain ⟨b2882, hx2883, h⟩ := bindS h
            refine x_if w2873 (et_B (e_var (R := rB) (x := meets0) rfl rfl)) hx2883 ?_ ?_
            · intro hbb2882 H2884 w2885
              subst hbb2882
              have h := bifT h
              obtain ⟨G2886, w2887, e2888, h2889⟩ := w2885.freezeAt (i := 0) rfl n2661
              have h2890 := Rep.mono _ e2888 h2878
              have h2891 := Rep.mono _ e2888 h2879
              have h2892 := Rep.mono _ e2888 h2880
              have h2893 := Rep.mono _ e2888 h2881
              have w2887 : Wo G H [] G2886 H2884 [] := w2887
              obtain ⟨a2897, hx2898, h⟩ := bindS h
              have h : a2897 = r := Option.some.inj h
              subst h
              exact x_ret w2887 (e_toDT (K := K) (e_tupH (eal_cons (e_toD (K := K) e_str dtS (by decide)) (eal_cons (e_toD (K := K) (e_var (R := (rL (rP rS rI))) (x := x2823.2) rfl h2889) (dtL (dtP dtS dtI)) (by decide)) (eal_cons (e_toD (K := K) (e_call (ea_cons (e_var (R := (rL rI)) (x := masks_here0) rfl h2890) (ea_cons (e_var (R := rI) (x := x2710.1) rfl rfl) (ea_cons (e_var (R := rI) (x := x2823.1) rfl rfl) ea_nil)))) dtI (by decide)) eal_nil))))) (by first | (simp only [be1, bs1, ba1] at hx2898 ⊢; exact hx2898) | exact hx2898) (fun v9 H9 G9 w9 e9 r9 => k v9 H9 G9 w9.upE r9)
            · intro hbb2882 H2899 w2900
              subst hbb2882
              have h := bifF h
              refine x_next ?_
              obtain ⟨G2901, w2902, e2903, h2904⟩ := w2900.freezeAt (i := 0) rfl n2661
              have h2905 := Rep.mono _ e2903 h2878
              have h2906 := Rep.mono _ e2903 h2879
              have h2907 := Rep.mono _ e2903 h2880
              have h2908 := Rep.mono _ e2903 h2881
              have w2902 : Wo G H [] G2901 H2899 [] := w2902
              obtain ⟨a2912, hx2913, h⟩ := bindS h
              have h : a2912 = r := Option.some.inj h
              subst h
              exact x_ret w2902 (e_toDT (K := K) (e_tupH (eal_cons (e_toD (K := K) e_str dtS (by decide)) (eal_cons (e_toD (K := K) (e_var (R := (rL (rP rS rI))) (x := x2823.2) rfl h2904) (dtL (dtP dtS dtI)) (by decide)) (eal_cons (e_toD (K := K) (e_call (ea_cons (e_var (R := (rL rI)) (x := masks_here0) rfl h2905) (ea_cons (e_var (R := rI) (x := x2710.1) rfl rfl) (ea_cons (e_var (R := rI) (x := x2823.1) rfl rfl) ea_nil)))) dtI (by decide)) eal_nil))))) (by first | (simp only [be1, bs1, ba1] at hx2913 ⊢; exact hx2913) | exact hx2913) (fun v9 H9 G9 w9 e9 r9 => k v9 H9 G9 w9.upE r9)
def m__law_part_made (part_here0 : (Str × Str × Int × Int × Unit)) : Option Sd :=
  (some (decide (part_here0.1 = ("copy" : Str))) >>= fun b2914 => bif b2914 then (((m_Copy___init__ part_here0.2.1 >>= fun t2918 => some (Sd.copy t2918.name)) >>= fun t2919 => (bif objB t2919 then some t2919 else none)) >>= fun a2920 => some a2920) else (some (decide (part_here0.1 = ("gate" : Str))) >>= fun b2924 => bif b2924 then (((((m_Tell___init__ part_here0.2.2.2.1 >>= fun t2928 => some (Sd.tell t2928.value)) >>= fun t2929 => m_Gate___init__ part_here0.2.1 part_here0.2.2.1 t2929) >>= fun t2930 => some (Sd.gate t2930.name t2930.at_ t2930.then_)) >>= fun t2931 => (bif objB t2931 then some t2931 else none)) >>= fun a2932 => some a2932) else (some (decide (part_here0.1 = ("plain" : Str))) >>= fun b2936 => bif b2936 then (some part_here0.2.1 >>= fun x2940 => (m__law_copying x2940 >>= fun x2945 => some x2945)) else (some (decide (part_here0.1 = ("raise" : Str))) >>= fun b2956 => bif b2956 then (some Sd.fnStop >>= fun a2960 => some a2960) else (((m_Tell___init__ part_here0.2.2.2.1 >>= fun t2964 => some (Sd.tell t2964.value)) >>= fun t2965 => (bif objB t2965 then some t2965 else none)) >>= fun a2966 => some a2966)))))
theorem sc__law_part_made : FnScope ["_law_part_here"] ["_law_part_here"] (defScope s__law_part_made) := ⟨rfl, rfl, rfl, by decide +kernel, rfl, by decide +kernel, by decide +kernel⟩
theorem ok__law_part_made (T : Tx K mg) (Y : ∀ p ∈ tf, LamX.TabB base mg (p.c K).1 (p.c K).2) : Fk P w K mg base CX0 15 "_law_part_made" ["_law_part_here"] (PTm (tb K) (aC (rTup (aC rS (aC rS (aC rI (aC rI aN))))) aN) (rSq w K mg base) (fun i => m__law_part_made i.1)) := by
  obtain ⟨fd_Copy___init__, G_Copy___init__, b_Copy___init__⟩ := ok_Copy___init__ (w := w) (base := base) T
  obtain ⟨fd_Gate___init__, G_Gate___init__, b_Gate___init__⟩ := ok_Gate___init__ (w := w) (base := base) T
  obtain ⟨fd_Tell___init__, G_Tell___init__, b_Tell___init__⟩ := ok_Tell___init__ (w := w) (base := base) T
  obtain ⟨fd__law_copying, G__law_copying, b__law_copying, k__law_copying, g__law_copying⟩ := ok__law_copying (w := w) (base := base) T Y
  obtain ⟨fd, F⟩ := T.def_ 45 rfl
  have nd := sc__law_part_made.nd
  refine fk_mk T.toTx (x := "_law_part_made") (T.glo 45 rfl) F (fun _ _ _ _ _ _ us hl => match us, hl with | [_], _ => rfl) (F.ok sc__law_part_made (fun vs H Q E h => ?_) (fun cdv A outer s H vs Q E hr h => ?_))
  · obtain ⟨G, ⟨part_here0, ⟨⟩⟩, u0, r, u1, ⟨vpart_here0, _, rfl, hpart_here0, rfl⟩, wd, h, k⟩ := h
    rfl
  · obtain ⟨G, ⟨part_here0, ⟨⟩⟩, u0, r, u1, ⟨vpart_here0, _, rfl, hpart_here0, rfl⟩, wd, h, k⟩ := h
    have e0 : Evl.Ex G H := wd.ex
    have w0 : Wo G H (List.map (fun c => c.1) (tb K)) G H _ := Wo.startC wd
    have h : m__law_part_made part_here0 = some r := uM_of h
    unfold m__law_part_made at h
    refine ⟨_, PSs.nox (pss_cons (ps_if (pt_cmpR op_eq (pe_ix (r := rIxT K) ix_tup (pv 0) pe_int (fun _ _ => rfl)) pe_str (nomark _)) (pss_cons (ps_ret (pe_make (T.mkr 100 rfl) G_Copy___init__ (hr.mono (by decide)) rfl (T.glo 26 rfl) b_Copy___init__ .nil pass0 (pa_cons (pe_ix (r := rIxT K) ix_tup (pv 0) pe_int (fun _ _ => rfl)) pa_nil))) pss_nil) pss_nil) (pss_cons (ps_if (pt_cmpR op_eq (pe_ix (r := rIxT K) ix_tup (pv 0) pe_int (fun _ _ => rfl)) pe_str (nomark _)) (pss_cons (ps_ret (pe_make (T.mkr 102 rfl) G_Gate___init__ (hr.mono (by decide)) rfl (T.glo 27 rfl) b_Gate___init__ .nil pass0 (pa_cons (pe_ix (r := rIxT K) ix_tup (pv 0) pe_int (fun _ _ => rfl)) (pa_cons (pe_ix (r := rIxT K) ix_tup (pv 0) pe_int (fun _ _ => rfl)) (pa_cons (pe_make (T.mkr 101 rfl) G_Tell___init__ (hr.mono (by decide)) rfl (T.glo 25 rfl) b_Tell___init__ .nil pass0 (pa_cons (pe_ix (r := rIxT K) ix_tup (pv 0) pe_int (fun _ _ => rfl)) pa_nil)) pa_nil))))) pss_nil) pss_nil) (pss_cons (ps_if (pt_cmpR op_eq (pe_ix (r := rIxT K) ix_tup (pv 0) pe_int (fun _ _ => rfl)) pe_str (nomark _)) (pss_cons (ps_ret (pe_call G__law_copying (hr.mono (by decide)) rfl g__law_copying k__law_copying b__law_copying .nil pass0 (pa_cons (pe_ix (r := rIxT K) ix_tup (pv 0) pe_int (fun _ _ => rfl)) pa_nil))) pss_nil) pss_nil) (pss_cons (ps_if (pt_cmpR op_eq (pe_ix (r := rIxT K) ix_tup (pv 0) pe_int (fun _ _ => rfl)) pe_str (nomark _)) (pss_cons (ps_ret (pe_glob (v := .ref (He.ga K "_law_stop")) (by rfl) (T.glo 43 rfl) rfl)) pss_nil) pss_nil) (pss_cons (ps_ret (pe_make (T.mkr 101 rfl) G_Tell___init__ (hr.mono (by decide)) rfl (T.glo 25 rfl) b_Tell___init__ .nil pass0 (pa_cons (pe_ix (r := rIxT K) ix_tup (pv 0) pe_int (fun _ _ => rfl)) pa_nil))) pss_nil))))), ?_⟩
    obtain ⟨b2914, hx2915, h⟩ := bindS h
    refine x_if w0 (et_T (e_op rr_eqS (e_prj (k := 0) (pr := fun i => i.1) (e_var (R := (rTup (aC rS (aC rS (aC rI (aC rI aN)))))) (x := part_here0) rfl (Rep.mono _ w0.ex hpart_here0)) (fun h => by obtain ⟨v0, _, rfl, h0, v1, _, rfl, h1, v2, _, rfl, h2, v3, _, rfl, h3, rfl⟩ := h; exact ⟨_, rfl, h0⟩)) e_str)) (by first | (simp only [be1, bs1, ba1] at hx2915 ⊢; exact hx2915) | exact hx2915) ?_ ?_
    · intro hbb2914 H2916 w2917
      subst hbb2914
      have h := bifT h
      obtain ⟨a2920, hx2921, h⟩ := bindS h
      have h : a2920 = r := Option.some.inj h
      subst h
      exact x_ret w2917 (e_bSq (e_cv (e_make (ea_cons (e_prj (k := 1) (pr := fun i => i.2.1) (e_var (R := (rTup (aC rS (aC rS (aC rI (aC rI aN)))))) (x := part_here0) rfl hpart_here0) (fun h => by obtain ⟨v0, _, rfl, h0, v1, _, rfl, h1, v2, _, rfl, h2, v3, _, rfl, h3, rfl⟩ := h; exact ⟨_, rfl, h1⟩)) ea_nil)) (fun h => sb_Copy T h))) (by first | (simp only [be1, bs1, ba1] at hx2921 ⊢; exact hx2921) | exact hx2921) (fun v9 H9 G9 w9 e9 r9 => k v9 H9 G9 w9.f (selJ_wd (js := [0]) w9.w (by decide) ⟨rfl, trivial⟩) r9)
    · intro hbb2914 H2922 w2923
      subst hbb2914
      have h := bifF h
      refine x_next ?_
      obtain ⟨b2924, hx2925, h⟩ := bindS h
      refine x_if w2923 (et_T (e_op rr_eqS (e_prj (k := 0) (pr := fun i => i.1) (e_var (R := (rTup (aC rS (aC rS (aC rI (aC rI aN)))))) (x := part_here0) rfl (Rep.mono _ w2923.ex hpart_here0)) (fun h => by obtain ⟨v0, _, rfl, h0, v1, _, rfl, h1, v2, _, rfl, h2, v3, _, rfl, h3, rfl⟩ := h; exact ⟨_, rfl, h0⟩)) e_str)) (by first | (simp only [be1, bs1, ba1] at hx2925 ⊢; exact hx2925) | exact hx2925) ?_ ?_
      · intro hbb2924 H2926 w2927
        subst hbb2924
        have h := bifT h
        obtain ⟨a2932, hx2933, h⟩ := bindS h
        have h : a2932 = r := Option.some.inj h
        subst h
        exact x_ret w2927 (e_bSq (e_cv (e_make (ea_cons (e_prj (k := 1) (pr := fun i => i.2.1) (e_var (R := (rTup (aC rS (aC rS (aC rI (aC rI aN)))))) (x := part_here0) rfl hpart_here0) (fun h => by obtain ⟨v0, _, rfl, h0, v1, _, rfl, h1, v2, _, rfl, h2, v3, _, rfl, h3, rfl⟩ := h; exact ⟨_, rfl, h1⟩)) (ea_cons (e_prj (k := 2) (pr := fun i => i.2.2.1) (e_var (R := (rTup (aC rS (aC rS (aC rI (aC rI aN)))))) (x := part_here0) rfl hpart_here0) (fun h => by obtain ⟨v0, _, rfl, h0, v1, _, rfl, h1, v2, _, rfl, h2, v3, _, rfl, h3, rfl⟩ := h; exact ⟨_, rfl, h2⟩)) (ea_cons (e_cv (e_make (ea_cons (e_prj (k := 3) (pr := fun i => i.2.2.2.1) (e_var (R := (rTup (aC rS (aC rS (aC rI (aC rI aN)))))) (x := part_here0) rfl hpart_here0) (fun h => by obtain ⟨v0, _, rfl, h0, v1, _, rfl, h1, v2, _, rfl, h2, v3, _, rfl, h3, rfl⟩ := h; exact ⟨_, rfl, h3⟩)) ea_nil)) (fun h => sd_Tell T h)) ea_nil)))) (fun h => sb_Gate T h))) (by first | (simp only [be1, bs1, ba1] at hx2933 ⊢; exact hx2933) | exact hx2933) (fun v9 H9 G9 w9 e9 r9 => k v9 H9 G9 w9.f (selJ_wd (js := [0]) w9.w (by decide) ⟨rfl, trivial⟩) r9)
      · intro hbb2924 H2934 w2935
        subst hbb2924
        have h := bifF h
        refine x_next ?_
        obtain ⟨b2936, hx2937, h⟩ := bindS h
        refine x_if w2935 (et_T (e_op rr_eqS (e_prj (k := 0) (pr := fun i => i.1) (e_var (R := (rTup (aC rS (aC rS (aC rI (aC rI aN)))))) (x := part_here0) rfl (Rep.mono _ w2935.ex hpart_here0)) (fun h => by obtain ⟨v0, _, rfl, h0, v1, _, rfl, h1, v2, _, rfl, h2, v3, _, rfl, h3, rfl⟩ := h; exact ⟨_, rfl, h0⟩)) e_str)) (by first | (simp only [be1, bs1, ba1] at hx2937 ⊢; exact hx2937) | exact hx2937) ?_ ?_
        · intro hbb2936 H2938 w2939
          subst hbb2936
          have h := bifT h
          refine x_retO ?_
          refine o_call ?_
          refine o_cons ?_
          obtain ⟨x2940, hx2941, h⟩ := bindS h
          refine c_s w2939 (e_prj (k := 1) (pr := fun i => i.2.1) (e_var (R := (rTup (aC rS (aC rS (aC rI (aC rI aN)))))) (x := part_here0) rfl hpart_here0) (fun h => by obtain ⟨v0, _, rfl, h0, v1, _, rfl, h1, v2, _, rfl, h2, v3, _, rfl, h3, rfl⟩ := h; exact ⟨_, rfl, h1⟩)) (by first | (simp only [be1, bs1, ba1] at hx2941 ⊢; exact hx2941) | exact hx2941) ?_
          intro H2942 w2943
          refine o_nil ?_
          obtain ⟨x2945, hx2946, h⟩ := bindS h
          refine c_pmJ [0] (i := (x2940, ())) (s := ()) (s' := ()) w2943 ⟨rfl, trivial⟩ ⟨_, _, rfl, rfl, rfl⟩ (uM_to hx2946) rfl (fun u2947 H2948 G2949 w2950 e2951 r2952 => ?_)
          have h2953 := Rep.mono _ e2951 hpart_here0
          have w2950 : Wo G H (List.map (fun c => c.1) (tb K)) G2949 H2948 ((tb K)) := w2950
          have h : x2945 = r := Option.some.inj h
          subst h
          exact k _ _ _ w2950.f (selJ_wd (js := [0]) w2950.w (by decide) ⟨rfl, trivial⟩) r2952
        · intro hbb2936 H2954 w2955
          subst hbb2936
          have h := bifF h
          refine x_next ?_
          obtain ⟨b2956, hx2957, h⟩ := bindS h
          refine x_if w2955 (et_T (e_op rr_eqS (e_prj (k := 0) (pr := fun i => i.1) (e_var (R := (rTup (aC rS (aC rS (aC rI (aC rI aN)))))) (x := part_here0) rfl (Rep.mono _ w2955.ex hpart_here0)) (fun h => by obtain ⟨v0, _, rfl, h0, v1, _, rfl, h1, v2, _, rfl, h2, v3, _, rfl, h3, rfl⟩ := h; exact ⟨_, rfl, h0⟩)) e_str)) (by first | (simp only [be1, bs1, ba1] at hx2957 ⊢; exact hx2957) | exact hx2957) ?_ ?_
          · intro hbb2956 H2958 w2959
            subst hbb2956
            have h := bifT h
            obtain ⟨a2960, hx2961, h⟩ := bindS h
            have h : a2960 = r := Option.some.inj h
            subst h
            exact x_ret w2959 (e_glv (sq_fnStop T)) hx2961 (fun v9 H9 G9 w9 e9 r9 => k v9 H9 G9 w9.f (selJ_wd (js := [0]) w9.w (by decide) ⟨rfl, trivial⟩) r9)
          · intro hbb2956 H2962 w2963
            subst hbb2956
            have h := bifF h
            refine x_next ?_
            obtain ⟨a2966, hx2967, h⟩ := bindS h
            have h : a2966 = r := Option.some.inj h
            subst h
            exact x_ret w2963 (e_bSq (e_cv (e_make (ea_cons (e_prj (k := 3) (pr := fun i => i.2.2.2.1) (e_var (R := (rTup (aC rS (aC rS (aC rI (aC rI aN)))))) (x := part_here0) rfl hpart_here0) (fun h => by obtain ⟨v0, _, rfl, h0, v1, _, rfl, h1, v2, _, rfl, h2, v3, _, rfl, h3, rfl⟩ := h; exact ⟨_, rfl, h3⟩)) ea_nil)) (fun h => sb_Tell T h))) (by first | (simp only [be1, bs1, ba1] at hx2967 ⊢; exact hx2967) | exact hx2967) (fun v9 H9 G9 w9 e9 r9 => k v9 H9 G9 w9.f (selJ_wd (js := [0]) w9.w (by decide) ⟨rfl, trivial⟩) r9)
def m__law_pair_got_t (d : PyData) (o : Option m_Record) : Option PyData := bif noneD d then (o >>= fun r9 => some (PyData.tuple [PyData.str ("told" : Str), (PyData.list (List.map (fun p => PyData.tuple [PyData.str p.1, PyData.int p.2]) r9.asks)), PyData.int r9.result])) else some d
def m__law_pair_got (side0 : Sd) (order0 : m_Order) (table0 : List (Str × Int)) : Option PyData :=
  m_TableAsker___init__ order0 table0 none >>= fun q => m_evaluate_side side0 ("owner10" : Str) q [] >>= fun p => Sum.elim (fun e => (bif (["NotDue"] : List Str).contains e.cls then (xS e "name" >>= fun nm => some (PyData.tuple [PyData.str ("raised" : Str), PyData.str nm, PyData.int 0])) else (bif (["NotElement"] : List Str).contains e.cls then (xI e "value" >>= fun nm => some (PyData.tuple [PyData.str ("element" : Str), PyData.int nm, PyData.int 0])) else none)) >>= fun d => m__law_pair_got_t d none) (fun r9 => m__law_pair_got_t PyData.none (some r9)) p.1
theorem sc__law_pair_got : FnScope ["_law_side", "_law_order", "_law_table", "_law_got", "_law_record", "e"] ["_law_side", "_law_order", "_law_table"] (defScope s__law_pair_got) := ⟨rfl, rfl, rfl, by decide +kernel, rfl, by decide +kernel, by decide +kernel⟩
theorem ok__law_pair_got (T : Tx K mg) : Fk P w K mg base CX0 63 "_law_pair_got" ["_law_side", "_law_order", "_law_table"] (PF (aC (rSdL w K mg base) (aC (r_Order K) (aC (rM Sum.inr rI) aN))) (rD K) (fun i => m__law_pair_got i.1 i.2.1 i.2.2.1)) := by
  obtain ⟨fd_evaluate_side, G_evaluate_side, b_evaluate_side, k_evaluate_side, g_evaluate_side⟩ := ok_evaluate_side (w := w) (base := base) T
  obtain ⟨fd_TableAsker___init__, G_TableAsker___init__, b_TableAsker___init__⟩ := ok_TableAsker___init__ (w := w) (base := base) T
  obtain ⟨fd, F⟩ := T.def_ 46 rfl
  have nd := sc__law_pair_got.nd
  refine fk_mk T.toTx (x := "_law_pair_got") (T.glo 46 rfl) F (fun _ _ _ _ _ _ us hl => match us, hl with | [_, _, _], _ => rfl) (F.ok sc__law_pair_got (fun vs H Q E h => ?_) (fun cdv A outer s H vs Q E hr h => ?_))
  · obtain ⟨G, ⟨side0, order0, table0, ⟨⟩⟩, r, e0, ⟨vs0, _, rfl, hside0, vo0, _, rfl, horder0, vt0, _, rfl, htable0, rfl⟩, h, k⟩ := h
    rfl
  · obtain ⟨G, ⟨side0, order0, table0, ⟨⟩⟩, r, e0, ⟨vs0, _, rfl, hside0, vo0, _, rfl, horder0, vt0, _, rfl, htable0, rfl⟩, h, k⟩ := h
    have w0 := Wo.start e0
    have h : m__law_pair_got side0 order0 table0 = some r := h
    unfold m__law_pair_got at h
    refine ⟨_, PSs.nox (pss_cons (ps_set (i := 3) nd rfl (Or.inl rfl) pe_non) (pss_cons (ps_set (i := 4) nd rfl (Or.inl rfl) pe_non) (Evl.pss_cut (ps_tryA nd rfl rfl takes_no (fun _ _ _ tk1 po1 => (pss_cons (ps_set (i := 4) nd rfl (Or.inl rfl) (pe_callS G_evaluate_side (hr.mono (by decide)) rfl g_evaluate_side k_evaluate_side b_evaluate_side (passAt tk1) (pa_cons (pv 0) (pa_cons pe_str (pa_cons (pe_make (T.mkr 103 rfl) G_TableAsker___init__ (hr.mono (by decide)) rfl (T.glo 13 rfl) b_TableAsker___init__.2 (.cons (show L2.RelV V.non Value.none from rfl) .nil) pass0 (pa_cons (pv 1) (pa_cons (pv 2) pa_nil))) pa_nil))))) pss_nil)) (HdsA.as_ (i := 5) ⟨by rfl, by decide, Or.inl (T.glo 10 rfl)⟩ rfl rfl (fun a0 oe0 cls0 d0 pn0 z0 f0 => (pss_cons (ps_set (i := 3) nd rfl (Or.inl rfl) (pe_tup (pa_cons pe_str (pa_cons (pe_xz z0 f0 (pv 5)) (pa_cons pe_int pa_nil))))) pss_nil)) (HdsA.as_ (i := 5) ⟨by rfl, by decide, Or.inl (T.glo 3 rfl)⟩ rfl rfl (fun a1 oe1 cls1 d1 pn1 z1 f1 => (pss_cons (ps_set (i := 3) nd rfl (Or.inl rfl) (pe_tup (pa_cons pe_str (pa_cons (pe_xz z1 f1 (pv 5)) (pa_cons pe_int pa_nil))))) pss_nil)) HdsA.nil))) (pss_cons (ps_if (pt_cmpR op_isN (pv 3) pe_non (nomark _)) (pss_cons (ps_set (i := 3) nd rfl (Or.inl rfl) (pe_tup (pa_cons pe_str (pa_cons (pe_callTy (r := rLs K) call_list_of (by rfl) (fr_list T) (by decide +kernel) (pa_cons (SlX.pe_sl (pv 4) (by rfl)) pa_nil)) (pa_cons (SlX.pe_sl (pv 4) (by rfl)) pa_nil))))) pss_nil) pss_nil) (pss_cons (ps_ret (pv 3)) pss_nil))))), ?_⟩
    refine x_set w0 (e_nonD (K := K)) rfl ?_
    intro v1 H1 G1 w1 e1 h1
    refine x_set w1 (e_none (R := r_Record K)) rfl ?_
    intro v2 H2 G2 w2 e2 h2
    obtain ⟨s1, hs1, h⟩ := bindS h
    obtain ⟨⟨r1, z1⟩, hp1, h⟩ := bindS h
    refine o_cut (fun σ' H' => ∃ (v3 v4 : V) (u5 : Option V) (d : PyData) (o : Option m_Record) (G' : Hp), Wo G H [] G' H' [] ∧ σ' = [some vs0, some vo0, some vt0, some v3, some v4, u5] ∧ (rD K).r G' v3 d ∧ (rO (r_Record K)).r G' v4 o ∧ m__law_pair_got_t d o = some r) ?_ ?_
    · refine o_try ?_
      refine x_setO ?_
      refine o_callS ?_
      refine o_cons ?_
      refine o_var rfl ?_
      refine o_cons ?_
      refine c_s w2 e_str rfl ?_
      intro H3 w3
      refine o_cons ?_
      refine o_make ?_
      refine o_cons (o_var rfl (o_cons (o_var rfl (o_nil ?_))))
      refine c_makeK (B := rP rS rI) (S := rM Sum.inr rI) (S2 := rO (rL rS)) (vs := [vo0, vt0]) (dvs := [.non]) (va := .non) (al := none) w3 (Rep.mono _ (e1.trans e2) horder0) (Rep.mono _ w3.ex (Rep.mono _ (e1.trans e2) htable0)) rfl rfl hs1 ?_
      intro v3 p3 H4 G4 n4 w4 e4 r4
      refine o_nil ?_
      refine c_pxa (A := aC (rSdL w K mg base) (aC rS (aC (rS_TableAsker K) aN))) (ad := fun i => i.2.2.1.1) (B := rP rS rI) (T := r_Record K) (f := fun i ys => m_evaluate_side i.1 i.2.1 i.2.2.1.2 ys) (j := 0) (i := (side0, ("owner10", ((p3, s1), ())))) w4 rfl ⟨_, _, rfl, Rep.mono _ ((e1.trans e2).trans e4) hside0, _, _, rfl, rfl, _, _, rfl, r4, rfl⟩ hp1 ?_ ?_
      · intro e3 he3 d3 H5 G5 w5 e5 xa5
        subst he3
        have h := sumL h
        obtain ⟨d9, h, h8⟩ := bindS h
        rcases bifO h with ⟨hc1, h⟩ | ⟨_, h⟩
        · refine ⟨true, xa_ok (T.mo 17 rfl) hc1, fun _ ax1 naax1 => ?_, fun z => nomatch z⟩
          obtain ⟨nm9, hnm9, h⟩ := bindS h
          refine x_set w5 (e_toD (K := K) (e_tupN (ea_cons e_str (ea_cons (e_xzS (a := ax1) rfl xa5 (xs_ok (T.mo 18 rfl) hc1).2 (xn_ok (T.mo 19 rfl) hc1 (by decide))) (ea_cons e_int ea_nil))) (fun h => by obtain ⟨_, _, rfl, _, _, _, rfl, _, _, _, rfl, _, rfl⟩ := h; show 3 ≤ 1000; decide)) (dtN (dtaC dtS (dtaC dtS (dtaC dtI dtaN)))) (by decide)) (x := PyData.tuple [PyData.str ("raised" : Str), PyData.str nm9, PyData.int 0]) (by rw [hnm9]; rfl) ?_
          intro v9 H9 G9 w9 e9 h9
          refine x_next ?_
          cases h
          exact ⟨v9, v2, none, _, none, G9, w9.dropAt 0, rfl, h9, Rep.mono _ ((e4.trans e5).trans e9) h2, h8⟩
        · skip
          rcases bifO h with ⟨hc1, h⟩ | ⟨_, h⟩
          · refine ⟨false, xa_ok (T.mo 23 rfl) hc1, fun z => Bool.noConfusion z, fun _ => ?_⟩
            refine ⟨true, xa_ok (T.mo 20 rfl) hc1, fun _ ax1 naax1 => ?_, fun z => nomatch z⟩
            obtain ⟨nm9, hnm9, h⟩ := bindS h
            refine x_set w5 (e_toD (K := K) (e_tupN (ea_cons e_str (ea_cons (e_xz (a := ax1) rfl xa5 (xs_ok (T.mo 21 rfl) hc1).2 (xn_ok (T.mo 22 rfl) hc1 (by decide))) (ea_cons e_int ea_nil))) (fun h => by obtain ⟨_, _, rfl, _, _, _, rfl, _, _, _, rfl, _, rfl⟩ := h; show 3 ≤ 1000; decide)) (dtN (dtaC dtS (dtaC dtI (dtaC dtI dtaN)))) (by decide)) (x := PyData.tuple [PyData.str ("element" : Str), PyData.int nm9, PyData.int 0]) (by rw [hnm9]; rfl) ?_
            intro v9 H9 G9 w9 e9 h9
            refine x_next ?_
            cases h
            exact ⟨v9, v2, none, _, none, G9, w9.dropAt 0, rfl, h9, Rep.mono _ ((e4.trans e5).trans e9) h2, h8⟩
          · skip
            cases h
      · intro x3 he3 v4 H5 G5 w5 e5 r5
        subst he3
        have h := sumR h
        refine x_next ?_
        exact ⟨v1, v4, none, _, some x3, G5, w5.dropAt 0, rfl, Rep.mono _ ((e2.trans e4).trans e5) h1, r5, h⟩
    · rintro σ' H7 ⟨v3, v4, u5, d, o, G7, w7, rfl, h3, h4, h⟩
      unfold m__law_pair_got_t at h
      refine x_if w7 (et_T (e_op rr_isND (e_var (R := rD K) (x := d) rfl (Rep.mono _ w7.ex h3)) e_non)) (b := noneD d) rfl ?_ ?_
      · intro hbb H8 w8
        rw [hbb] at h
        have h := bifT h
        obtain ⟨rec9, hrec, h⟩ := bindS h
        subst hrec
        have h : some _ = some r := h
        cases h
        have w7 := w8
        refine x_set w7 (e_toD (K := K) (e_tupN (ea_cons e_str (ea_cons (EL.e (el_cb rc_listT (ea_cons (e_sl (fun (o : m_Record) => o.asks) (e_var (R := (r_Record K)) (x := rec9) rfl h4) (scl_ok (T.mo 3 rfl)) (slot_ok (T.mo 5 rfl)) (fun _ => (List.mem_cons_of_mem _ (List.mem_cons_self ..)))) ea_nil))) (ea_cons (e_sl (fun (o : m_Record) => o.result) (e_var (R := (r_Record K)) (x := rec9) rfl h4) (scl_ok (T.mo 3 rfl)) (slot_ok (T.mo 6 rfl)) (fun _ => (List.mem_cons_of_mem _ (List.mem_cons_of_mem _ (List.mem_cons_self ..))))) ea_nil))) (fun h => by obtain ⟨_, _, rfl, _, _, _, rfl, _, _, _, rfl, _, rfl⟩ := h; show 3 ≤ 1000; decide)) (dtN (dtaC dtS (dtaC (dtL (dtP dtS dtI)) (dtaC dtI dtaN)))) (by decide)) rfl ?_
        intro v9 H9 G9 w9 e9 h9
        refine x_next ?_
        exact x_ret w9 (e_var (R := rD K) rfl h9) rfl (fun v9 H9 G9 w9 e9 r9 => k v9 H9 G9 w9.upE r9)
      · intro hbb H8 w8
        rw [hbb] at h
        have h := bifF h
        cases h
        refine x_next ?_
        exact x_ret w8 (e_var (R := rD K) (x := r) rfl h3) rfl (fun v9 H9 G9 w9 e9 r9 => k v9 H9 G9 w9.upE r9)
def m_law_b2 (size_2996 : Int) (x3589 : Str) (s3579 : ((List Int) × (List (Str × Int)))) : Option ((List Int) × (List (Str × Int))) :=
  (some size_2996 >>= fun x3606 => (m__law_draw s3579.1 x3606 >>= fun x3611 => (some x3589 >>= fun k3629 => putMM s3579.2 k3629 x3611.1 >>= fun table_3630 => some ((x3611.2, table_3630)))))
def m_law_b1 (x3044 : ((List Str) × (List Int))) (size_2996 : Int) (x2982 : ((List Int) × (List Int))) (x3085 : ((Str × Str × Int × Int × Unit) × (List Int))) (s3231 : ((Str × Str × Int × Int × Unit) × Sd)) (x3311 : Bool) (s3400 : (Sd × (m_JoinSide ⊕ m_MeetSide))) (order_3001 : m_Order) (x3151 : Sd) (x3544 : Int) (s3531 : (List Int)) : Option (Stp (List Int) Bool) :=
  (some ([] : (List (Str × Int))) >>= fun table_3556 => (some x3044.1 >>= fun xs3574 => forS (m_law_b2 size_2996) xs3574 (s3531, table_3556) >>= fun s3579 => (m__law_pair_due x2982.1 x3085.1 s3231.1 x3311 s3579.2 >>= fun due_3677 => ((orO ((((Sum.elim (fun y3696 => some (Sd.join y3696.left y3696.right)) (fun y3696 => some (Sd.meet y3696.left y3696.right)) s3400.2) >>= fun t3698 => m__law_pair_got t3698 order_3001 s3579.2) >>= fun t3699 => some (!PyData.eqv t3699 due_3677))) ((m__law_pair_got s3400.1 order_3001 s3579.2 >>= fun t3700 => some (!PyData.eqv t3700 due_3677)))) >>= fun b3701 => bif b3701 then (some false >>= fun a3705 => some (Stp.rt a3705)) else ((((Sum.elim (fun y3709 => some y3709.left) (fun y3709 => some y3709.left) s3400.2) >>= fun t3711 => m__law_pair_got t3711 order_3001 s3579.2) >>= fun t3712 => (m__law_pair_got x3151 order_3001 s3579.2 >>= fun t3713 => some (!PyData.eqv t3712 t3713))) >>= fun b3714 => bif b3714 then (some false >>= fun a3718 => some (Stp.rt a3718)) else ((((Sum.elim (fun y3722 => some y3722.right) (fun y3722 => some y3722.right) s3400.2) >>= fun t3724 => m__law_pair_got t3724 order_3001 s3579.2) >>= fun t3725 => (m__law_pair_got s3231.2 order_3001 s3579.2 >>= fun t3726 => some (!PyData.eqv t3725 t3726))) >>= fun b3727 => bif b3727 then (some false >>= fun a3731 => some (Stp.rt a3731)) else some (Stp.nx s3579.1)))))))
def m_law (script0 : (List Int)) : Option Bool :=
  (m__law_pot script0 >>= fun pot_here_2968 => (some (6 : Int) >>= fun x2977 => (m__law_masks pot_here_2968 x2977 >>= fun x2982 => (some (x2982.1.length : Int) >>= fun size_2996 => ((m__law_pairs x2982.1 >>= fun t3000 => m_Order___init__ size_2996 t3000) >>= fun order_3001 => (some (2 : Int) >>= fun x3011 => (some (3 : Int) >>= fun x3016 => (m__law_draw x2982.2 x3016 >>= fun x3021 => (some (x3011 + x3021.1) >>= fun x3032 => (m__law_names x3021.2 x3032 >>= fun x3044 => (some x3044.1 >>= fun x3062 => (some size_2996 >>= fun x3075 => (some (4 : Int) >>= fun x3080 => (m__law_part x3044.2 x3062 x3075 x3080 >>= fun x3085 => (some x3044.1 >>= fun x3098 => (some size_2996 >>= fun x3112 => (some (7 : Int) >>= fun x3117 => (m__law_part x3085.2 x3098 x3112 x3117 >>= fun x3122 => (some x3085.1 >>= fun x3136 => (m__law_part_made x3136 >>= fun x3151 => (some x3122.1 >>= fun x3166 => (m__law_part_made x3166 >>= fun x3182 => ((some ((decide (x3122.1.1 = ("twin" : Str))) || ((decide (x3122.1.1 = ("raise" : Str))) && (decide (x3085.1.1 = ("bad" : Str))))) >>= fun b3198 => bif b3198 then (some x3085.1 >>= fun right_3243 => (some x3151 >>= fun two_3259 => some (right_3243, two_3259))) else some (x3122.1, x3182)) >>= fun s3231 => (some (2 : Int) >>= fun x3285 => (m__law_draw x3122.2 x3285 >>= fun x3290 => (some (1 : Int) >>= fun x3307 => (some (x3290.1 == x3307) >>= fun x3311 => ((some x3311 >>= fun b3327 => bif b3327 then ((((bif objB x3151 then some x3151 else none) >>= fun t3412 => m_Side___and__ t3412 s3231.2) >>= fun t3413 => some (Sum.inr t3413 : (m_JoinSide ⊕ m_MeetSide))) >>= fun whole_3414 => ((m_PairSide___init___MeetSide x3151 s3231.2 >>= fun t3430 => some (Sd.meet t3430.left t3430.right)) >>= fun other_3431 => some (other_3431, whole_3414))) else ((((bif objB x3151 then some x3151 else none) >>= fun t3450 => m_Side___or__ t3450 s3231.2) >>= fun t3451 => some (Sum.inl t3451 : (m_JoinSide ⊕ m_MeetSide))) >>= fun whole_3452 => ((m_PairSide___init___JoinSide x3151 s3231.2 >>= fun t3468 => some (Sd.join t3468.left t3468.right)) >>= fun other_3469 => some (other_3469, whole_3452)))) >>= fun s3400 => ((orO (((Sum.elim (fun y3496 => some true) (fun y3496 => some true) s3400.2) >>= fun t3498 => some (!t3498))) (((Sum.elim (fun y3499 => some true) (fun y3499 => some true) s3400.2) >>= fun t3501 => some (!t3501)))) >>= fun b3502 => bif b3502 then (some false >>= fun a3506 => some a3506) else ((orO (((Sum.elim (fun y3510 => some false) (fun y3510 => some true) s3400.2) >>= fun t3512 => some (!(t3512 == x3311)))) (((Sum.elim (fun y3513 => some true) (fun y3513 => some false) s3400.2) >>= fun t3515 => some (t3515 == x3311)))) >>= fun b3516 => bif b3516 then (some false >>= fun a3520 => some a3520) else (some (2 : Int) >>= fun n3524 => rngM 0 n3524 >>= fun xs3526 => forL (m_law_b1 x3044 size_2996 x2982 x3085 s3231 x3311 s3400 order_3001 x3151) xs3526 x3290.2 >>= Sum.elim (fun s3531 => (some true >>= fun a3750 => some a3750)) (fun r => some r))))))))))))))))))))))))))))))))
theorem sc_law : FnScope ["_law_script", "_law_pot_here", "_law_masks_here", "_law_size", "_law_order", "_law_names_here", "_law_left", "_law_right", "_law_one", "_law_two", "_law_meets", "_law_turn", "_law_whole", "_law_other", "_law_table", "_law_name", "_law_due"] ["_law_script"] (defScope s_law) := ⟨rfl, rfl, rfl, by decide +kernel, rfl, by decide +kernel, by decide +kernel⟩
theorem ok_law (T : Tx K mg) : ∃ fd, FunD K "law" "law" (defArgs s_law) (defBody s_law) (defScope s_law) [] [] (He.ga K "law") fd ∧ ∀ base : Heap, (∀ p ∈ tf, LamX.TabB base mg (p.c K).1 (p.c K).2) → FnOk P w K mg base CX0 64 (He.ga K "law") fd ["_law_script"] (PTm (tb K) (aC (rScr K) aN) rB (fun i => m_law i.1)) := by
  obtain ⟨fd, F⟩ := T.def_ 47 rfl
  refine ⟨fd, F, fun base Y => ?_⟩
  obtain ⟨fd__law_pot, G__law_pot, b__law_pot, k__law_pot, g__law_pot⟩ := ok__law_pot (w := w) (base := base) T
  obtain ⟨fd__law_masks, G__law_masks, b__law_masks, k__law_masks, g__law_masks⟩ := ok__law_masks (w := w) (base := base) T
  obtain ⟨fd_Order___init__, G_Order___init__, b_Order___init__⟩ := ok_Order___init__ (w := w) (base := base) T
  obtain ⟨fd__law_pairs, G__law_pairs, b__law_pairs, k__law_pairs, g__law_pairs⟩ := ok__law_pairs (w := w) (base := base) T
  obtain ⟨fd__law_names, G__law_names, b__law_names, k__law_names, g__law_names⟩ := ok__law_names (w := w) (base := base) T
  obtain ⟨fd__law_draw, G__law_draw, b__law_draw, k__law_draw, g__law_draw⟩ := ok__law_draw (w := w) (base := base) T
  obtain ⟨fd__law_part, G__law_part, b__law_part, k__law_part, g__law_part⟩ := ok__law_part (w := w) (base := base) T
  obtain ⟨fd__law_part_made, G__law_part_made, b__law_part_made, k__law_part_made, g__law_part_made⟩ := ok__law_part_made (w := w) (base := base) T Y
  obtain ⟨fd_Side___and__, G_Side___and__, b_Side___and__⟩ := ok_Side___and__ (w := w) (base := base) T
  obtain ⟨fd_PairSide___init___MeetSide, G_PairSide___init___MeetSide, b_PairSide___init___MeetSide⟩ := ok_PairSide___init___MeetSide (w := w) (base := base) T
  obtain ⟨fd_Side___or__, G_Side___or__, b_Side___or__⟩ := ok_Side___or__ (w := w) (base := base) T
  obtain ⟨fd_PairSide___init___JoinSide, G_PairSide___init___JoinSide, b_PairSide___init___JoinSide⟩ := ok_PairSide___init___JoinSide (w := w) (base := base) T
  obtain ⟨fd__law_pair_due, G__law_pair_due, b__law_pair_due, k__law_pair_due, g__law_pair_due⟩ := ok__law_pair_due (w := w) (base := base) T
  obtain ⟨fd__law_pair_got, G__law_pair_got, b__law_pair_got, k__law_pair_got, g__law_pair_got⟩ := ok__law_pair_got (w := w) (base := base) T
  rw [← eqm_ok (T.mo 13 rfl)] at G_PairSide___init___MeetSide
  rw [← eqm_ok (T.mo 12 rfl)] at G_PairSide___init___JoinSide
  have nd := sc_law.nd
  refine (F.ok sc_law (fun vs H Q E h => ?_) (fun cdv A outer s H vs Q E hr h => ?_))
  · obtain ⟨G, ⟨script0, ⟨⟩⟩, u0, r, u1, ⟨vscript0, _, rfl, hscript0, rfl⟩, wd, h, k⟩ := h
    rfl
  · obtain ⟨G, ⟨script0, ⟨⟩⟩, u0, r, u1, ⟨vscript0, _, rfl, hscript0, rfl⟩, wd, h, k⟩ := h
    have e0 : Evl.Ex G H := wd.ex
    have w0 : Wo G H (List.map (fun c => c.1) (tb K)) G H _ := Wo.startC wd
    have h : m_law script0 = some r := uM_of h
    unfold m_law at h
    refine ⟨_, PSs.nox (pss_cons (ps_set (i := 1) nd rfl (Or.inl rfl) (pe_call G__law_pot (hr.mono (by decide)) rfl g__law_pot k__law_pot b__law_pot .nil pass0 (pa_cons (pv 0) pa_nil))) (pss_cons (ps_set (i := 2) nd rfl (Or.inl rfl) (pe_call G__law_masks (hr.mono (by decide)) rfl g__law_masks k__law_masks b__law_masks .nil pass0 (pa_cons (pv 1) (pa_cons pe_int pa_nil)))) (pss_cons (ps_set (i := 3) nd rfl (Or.inl rfl) (pe_callB (r := rLn K) call_len_seq (by rfl) (fr_len T) (by decide +kernel) (pa_cons (pv 2) pa_nil))) (pss_cons (ps_set (i := 4) nd rfl (Or.inl rfl) (pe_make (T.mkr 104 rfl) G_Order___init__ (hr.mono (by decide)) rfl (T.glo 23 rfl) b_Order___init__ .nil pass0 (pa_cons (pv 3) (pa_cons (pe_call G__law_pairs (hr.mono (by decide)) rfl g__law_pairs k__law_pairs b__law_pairs .nil pass0 (pa_cons (pv 2) pa_nil)) pa_nil)))) (pss_cons (ps_set (i := 5) nd rfl (Or.inl rfl) (pe_call G__law_names (hr.mono (by decide)) rfl g__law_names k__law_names b__law_names .nil pass0 (pa_cons (pv 1) (pa_cons (pe_op op_add pe_int (pe_call G__law_draw (hr.mono (by decide)) rfl g__law_draw k__law_draw b__law_draw .nil pass0 (pa_cons (pv 1) (pa_cons pe_int pa_nil)))) pa_nil)))) (pss_cons (ps_set (i := 6) nd rfl (Or.inl rfl) (pe_call G__law_part (hr.mono (by decide)) rfl g__law_part k__law_part b__law_part .nil pass0 (pa_cons (pv 1) (pa_cons (pv 5) (pa_cons (pv 3) (pa_cons pe_int pa_nil)))))) (pss_cons (ps_set (i := 7) nd rfl (Or.inl rfl) (pe_call G__law_part (hr.mono (by decide)) rfl g__law_part k__law_part b__law_part .nil pass0 (pa_cons (pv 1) (pa_cons (pv 5) (pa_cons (pv 3) (pa_cons pe_int pa_nil)))))) (pss_cons (ps_set (i := 8) nd rfl (Or.inl rfl) (pe_call G__law_part_made (hr.mono (by decide)) rfl g__law_part_made k__law_part_made b__law_part_made .nil pass0 (pa_cons (pv 6) pa_nil))) (pss_cons (ps_set (i := 9) nd rfl (Or.inl rfl) (pe_call G__law_part_made (hr.mono (by decide)) rfl g__law_part_made k__law_part_made b__law_part_made .nil pass0 (pa_cons (pv 7) pa_nil))) (Evl.pss_cut (ps_if (PW.pt (pw_or (pt_cmpR op_eq (pe_ix (r := rIxT K) ix_tup (pv 7) pe_int (fun _ _ => rfl)) pe_str (nomark _)) (pw_or1 (PW.pt (pw_and (pt_cmpR op_eq (pe_ix (r := rIxT K) ix_tup (pv 7) pe_int (fun _ _ => rfl)) pe_str (nomark _)) (pw_and1 (pt_cmpR op_eq (pe_ix (r := rIxT K) ix_tup (pv 6) pe_int (fun _ _ => rfl)) pe_str (nomark _)))))))) (pss_cons (ps_set (i := 7) nd rfl (Or.inl rfl) (pv 6)) (pss_cons (ps_set (i := 9) nd rfl (Or.inl rfl) (pv 8)) pss_nil)) pss_nil) (pss_cons (ps_set (i := 10) nd rfl (Or.inl rfl) (pe_cmpR op_eq (pe_call G__law_draw (hr.mono (by decide)) rfl g__law_draw k__law_draw b__law_draw .nil pass0 (pa_cons (pv 1) (pa_cons pe_int pa_nil))) pe_int (nomark _))) (Evl.pss_cut (ps_if (pt_val (pv 10)) (pss_cons (ps_set (i := 12) nd rfl (Or.inl rfl) (pe_opJ (E := fun _ => E0) (nm := "and") (by rfl) G_Side___and__ (hr.mono (by decide)) b_Side___and__ (fun _ => passAt0) (pv 8) (pv 9))) (pss_cons (ps_set (i := 13) nd rfl (Or.inl rfl) (pe_make (T.mkr 90 rfl) G_PairSide___init___MeetSide (hr.mono (by decide)) rfl (T.glo 30 rfl) b_PairSide___init___MeetSide .nil pass0 (pa_cons (pv 8) (pa_cons (pv 9) pa_nil)))) pss_nil)) (pss_cons (ps_set (i := 12) nd rfl (Or.inl rfl) (pe_opJ (E := fun _ => E0) (nm := "or") (by rfl) G_Side___or__ (hr.mono (by decide)) b_Side___or__ (fun _ => passAt0) (pv 8) (pv 9))) (pss_cons (ps_set (i := 13) nd rfl (Or.inl rfl) (pe_make (T.mkr 89 rfl) G_PairSide___init___JoinSide (hr.mono (by decide)) rfl (T.glo 29 rfl) b_PairSide___init___JoinSide .nil pass0 (pa_cons (pv 8) (pa_cons (pv 9) pa_nil)))) pss_nil))) (pss_cons (ps_if (PW.pt (pw_or (pt_not (pt_val (pe_callB (r := rIsi K) call_isi (by rfl) (fr_isinstance T) (by decide +kernel) (pa_cons (pv 12) (pa_cons (pe_glob (v := .ref (He.ga K "Side")) (by rfl) (T.glo 24 rfl) rfl) pa_nil))))) (pw_or1 (pt_not (pt_val (pe_callB (r := rIsi K) call_isi (by rfl) (fr_isinstance T) (by decide +kernel) (pa_cons (pv 12) (pa_cons (pe_glob (v := .ref (He.ga K "PairSide")) (by rfl) (T.glo 28 rfl) rfl) pa_nil)))))))) (pss_cons (ps_ret pe_bl) pss_nil) pss_nil) (pss_cons (ps_if (PW.pt (pw_or (pt_cmpR op_ne (pe_callB (r := rIsi K) call_isi (by rfl) (fr_isinstance T) (by decide +kernel) (pa_cons (pv 12) (pa_cons (pe_glob (v := .ref (He.ga K "MeetSide")) (by rfl) (T.glo 30 rfl) rfl) pa_nil))) (pv 10) (nomark _)) (pw_or1 (pt_cmpR op_eq (pe_callB (r := rIsi K) call_isi (by rfl) (fr_isinstance T) (by decide +kernel) (pa_cons (pv 12) (pa_cons (pe_glob (v := .ref (He.ga K "JoinSide")) (by rfl) (T.glo 29 rfl) rfl) pa_nil))) (pv 10) (nomark _))))) (pss_cons (ps_ret pe_bl) pss_nil) pss_nil) (pss_cons (ps_for PassesOwn.never rfl (pi_range1 (by rfl) (fr_range T) (pa_cons pe_int pa_nil)) (pg_name (i := 11) nd rfl (Or.inl rfl)) (pss_cons (ps_set (i := 14) nd rfl (Or.inl rfl) pe_dnewK) (pss_cons (ps_for PassesOwn.never rfl (pi_list (pv 5)) (pg_name (i := 15) nd rfl (Or.inl rfl)) (pss_cons (ps_dput (hu_of hr) (pv 14) (pv 15) (pe_call G__law_draw (hr.mono (by decide)) rfl g__law_draw k__law_draw b__law_draw .nil pass0 (pa_cons (pv 1) (pa_cons (pv 3) pa_nil))) rfl) pss_nil)) (pss_cons (ps_set (i := 16) nd rfl (Or.inl rfl) (pe_call G__law_pair_due (hr.mono (by decide)) rfl g__law_pair_due k__law_pair_due b__law_pair_due .nil pass0 (pa_cons (pv 2) (pa_cons (pv 6) (pa_cons (pv 7) (pa_cons (pv 10) (pa_cons (pv 14) pa_nil))))))) (pss_cons (ps_if (PW.pt (pw_or (pt_cmpR (r := rNeP K) (op_neP hr.units) (pe_call G__law_pair_got (hr.mono (by decide)) rfl g__law_pair_got k__law_pair_got b__law_pair_got .nil pass0 (pa_cons (pv 12) (pa_cons (pv 4) (pa_cons (pv 14) pa_nil)))) (pv 16) (nomark _)) (pw_or1 (pt_cmpR (r := rNeP K) (op_neP hr.units) (pe_call G__law_pair_got (hr.mono (by decide)) rfl g__law_pair_got k__law_pair_got b__law_pair_got .nil pass0 (pa_cons (pv 13) (pa_cons (pv 4) (pa_cons (pv 14) pa_nil)))) (pv 16) (nomark _))))) (pss_cons (ps_ret pe_bl) pss_nil) pss_nil) (pss_cons (ps_if (pt_cmpR (r := rNeP K) (op_neP hr.units) (pe_call G__law_pair_got (hr.mono (by decide)) rfl g__law_pair_got k__law_pair_got b__law_pair_got .nil pass0 (pa_cons (show L2.PE _ _ (tFld K _ _) from pe_fld (pv 12) (by rfl)) (pa_cons (pv 4) (pa_cons (pv 14) pa_nil)))) (pe_call G__law_pair_got (hr.mono (by decide)) rfl g__law_pair_got k__law_pair_got b__law_pair_got .nil pass0 (pa_cons (pv 8) (pa_cons (pv 4) (pa_cons (pv 14) pa_nil)))) (nomark _)) (pss_cons (ps_ret pe_bl) pss_nil) pss_nil) (pss_cons (ps_if (pt_cmpR (r := rNeP K) (op_neP hr.units) (pe_call G__law_pair_got (hr.mono (by decide)) rfl g__law_pair_got k__law_pair_got b__law_pair_got .nil pass0 (pa_cons (show L2.PE _ _ (tFld K _ _) from pe_fld (pv 12) (by rfl)) (pa_cons (pv 4) (pa_cons (pv 14) pa_nil)))) (pe_call G__law_pair_got (hr.mono (by decide)) rfl g__law_pair_got k__law_pair_got b__law_pair_got .nil pass0 (pa_cons (pv 9) (pa_cons (pv 4) (pa_cons (pv 14) pa_nil)))) (nomark _)) (pss_cons (ps_ret pe_bl) pss_nil) pss_nil) pss_nil))))))) (pss_cons (ps_ret pe_bl) pss_nil)))))))))))))))), ?_⟩
    obtain ⟨pot_here_2968, hx2969, h⟩ := bindS h
    refine x_setL w0 (el_call (ea_cons (e_var (R := (rScr K)) (x := script0) rfl hscript0) ea_nil)) (by first | (simp only [be1, bs1, ba1] at hx2969 ⊢; exact hx2969) | exact hx2969) ?_
    intro p2972 H2970 G2973 n2974 w2971 e2975
    have h2976 := Rep.mono _ e2975 hscript0
    refine x_setO ?_
    refine o_call ?_
    refine o_cons ?_
    refine o_var rfl ?_
    refine o_cons ?_
    obtain ⟨x2977, hx2978, h⟩ := bindS h
    refine c_i w2971 e_int hx2978 ?_
    intro H2979 w2980
    refine o_nil ?_
    obtain ⟨x2982, hx2983, h⟩ := bindS h
    refine c_p1l (i := 0) (j := (x2977, ())) w2980 rfl ⟨_, _, rfl, rfl, rfl⟩ hx2983 ?_
    intro p2986 H2984 G2987 n2988 w2985 e2989
    have h2990 := Rep.mono _ e2989 h2976
    have w2985 : Wo G H (List.map (fun c => c.1) (tb K)) G2987 H2984 ((p2986, cL rI x2982.1) :: (p2972, cL rI x2982.2) :: (tb K)) := w2985
    obtain ⟨G2991, w2992, e2993, h2994⟩ := w2985.freezeAt (i := 0) rfl n2988
    have h2995 := Rep.mono _ e2993 h2990
    have w2992 : Wo G H (List.map (fun c => c.1) (tb K)) G2991 H2984 ((p2972, cL rI x2982.2) :: (tb K)) := w2992
    obtain ⟨size_2996, hx2997, h⟩ := bindS h
    refine x_setI w2992 (e_cb rc_lenL (ea_cons (e_var (R := (rL rI)) (x := x2982.1) rfl h2994) ea_nil)) hx2997 ?_
    intro H2998 w2999
    refine o_slots (σ' := [some vscript0, some (V.ref p2972), some (V.ref p2986), some (V.int size_2996), none, none, none, none, none, none, none, none, none, none, none, none, none]) rfl ?_
    obtain ⟨order_3001, hx3002, h⟩ := bindS h
    refine x_set w2999 (e_make (ea_cons (e_var (R := rI) (x := size_2996) rfl rfl) (ea_cons (EL.e (el_call (ea_cons (e_var (R := (rL rI)) (x := x2982.1) rfl h2994) ea_nil))) ea_nil))) (by first | (simp only [be1, bs1, ba1] at hx3002 ⊢; exact hx3002) | exact hx3002) ?_
    intro v3005 H3003 G3006 w3004 e3007 h3008
    have h3009 := Rep.mono _ e3007 h2995
    have h3010 := Rep.mono _ e3007 h2994
    refine x_setO ?_
    refine o_call ?_
    refine o_cons ?_
    refine o_var rfl ?_
    refine o_cons ?_
    refine o_op ?_
    obtain ⟨x3011, hx3012, h⟩ := bindS h
    refine c_i w3004 e_int hx3012 ?_
    intro H3013 w3014
    refine o_call ?_
    refine o_cons ?_
    refine o_var rfl ?_
    refine o_cons ?_
    obtain ⟨x3016, hx3017, h⟩ := bindS h
    refine c_i w3014 e_int hx3017 ?_
    intro H3018 w3019
    refine o_nil ?_
    obtain ⟨x3021, hx3022, h⟩ := bindS h
    refine c_p1 (i := 0) (j := (x3016, ())) w3019 rfl ⟨_, _, rfl, rfl, rfl⟩ hx3022 ?_
    intro u3023 H3024 G3025 w3026 e3027 r3028
    have h3029 := Rep.mono _ e3027 h3009
    have h3030 := Rep.mono _ e3027 h3010
    have h3031 := Rep.mono _ e3027 h3008
    cases r3028
    have w3026 : Wo G H (List.map (fun c => c.1) (tb K)) G3025 H3024 ((p2972, cL rI x3021.2) :: (tb K)) := w3026
    obtain ⟨x3032, hx3033, h⟩ := bindS h
    refine c_rr rr_add w3026 rfl rfl hx3033 ?_
    intro u3034 H3035 G3036 w3037 e3038 r3039
    have h3040 := Rep.mono _ e3038 h3029
    have h3041 := Rep.mono _ e3038 h3030
    have h3042 := Rep.mono _ e3038 h3031
    cases r3039
    refine o_nil ?_
    obtain ⟨x3044, hx3045, h⟩ := bindS h
    refine c_p1l (i := 0) (j := (x3032, ())) w3037 rfl ⟨_, _, rfl, rfl, rfl⟩ hx3045 ?_
    intro p3048 H3046 G3049 n3050 w3047 e3051
    have h3052 := Rep.mono _ e3051 h3040
    have h3053 := Rep.mono _ e3051 h3041
    have h3054 := Rep.mono _ e3051 h3042
    have w3047 : Wo G H (List.map (fun c => c.1) (tb K)) G3049 H3046 ((p3048, cL rS x3044.1) :: (p2972, cL rI x3044.2) :: (tb K)) := w3047
    obtain ⟨G3055, w3056, e3057, h3058⟩ := w3047.freezeAt (i := 0) rfl n3050
    have h3059 := Rep.mono _ e3057 h3052
    have h3060 := Rep.mono _ e3057 h3053
    have h3061 := Rep.mono _ e3057 h3054
    have w3056 : Wo G H (List.map (fun c => c.1) (tb K)) G3055 H3046 ((p2972, cL rI x3044.2) :: (tb K)) := w3056
    refine x_setO ?_
    refine o_call ?_
    refine o_cons ?_
    refine o_var rfl ?_
    refine o_cons ?_
    obtain ⟨x3062, hx3063, h⟩ := bindS h
    refine c_e w3056 (e_var (R := (rL rS)) (x := x3044.1) rfl h3058) hx3063 ?_
    intro v3066 H3064 G3067 w3065 e3068 h3069
    have h3070 := Rep.mono _ e3068 h3059
    have h3071 := Rep.mono _ e3068 h3060
    have h3072 := Rep.mono _ e3068 h3061
    have h3073 := Rep.mono _ e3068 h3058
    refine o_cons ?_
    obtain ⟨x3075, hx3076, h⟩ := bindS h
    refine c_i w3065 (e_var (R := rI) (x := size_2996) rfl rfl) hx3076 ?_
    intro H3077 w3078
    refine o_cons ?_
    obtain ⟨x3080, hx3081, h⟩ := bindS h
    refine c_i w3078 e_int hx3081 ?_
    intro H3082 w3083
    refine o_nil ?_
    obtain ⟨x3085, hx3086, h⟩ := bindS h
    refine c_p1 (i := 0) (j := (x3062, x3075, x3080, ())) w3083 rfl ⟨_, _, rfl, h3069, _, _, rfl, rfl, _, _, rfl, rfl, rfl⟩ hx3086 ?_
    intro u3087 H3088 G3089 w3090 e3091 r3092
    have h3093 := Rep.mono _ e3091 h3070
    have h3094 := Rep.mono _ e3091 h3071
    have h3095 := Rep.mono _ e3091 h3072
    have h3096 := Rep.mono _ e3091 h3073
    have h3097 := Rep.mono _ e3091 h3069
    have w3090 : Wo G H (List.map (fun c => c.1) (tb K)) G3089 H3088 ((p2972, cL rI x3085.2) :: (tb K)) := w3090
    refine o_slots (σ' := [some vscript0, some (V.ref p2972), some (V.ref p2986), some (V.int size_2996), some v3005, some (V.ref p3048), some u3087, none, none, none, none, none, none, none, none, none, none]) rfl ?_
    refine x_setO ?_
    refine o_call ?_
    refine o_cons ?_
    refine o_var rfl ?_
    refine o_cons ?_
    obtain ⟨x3098, hx3099, h⟩ := bindS h
    refine c_e w3090 (e_var (R := (rL rS)) (x := x3044.1) rfl h3096) hx3099 ?_
    intro v3102 H3100 G3103 w3101 e3104 h3105
    have h3106 := Rep.mono _ e3104 h3093
    have h3107 := Rep.mono _ e3104 h3094
    have h3108 := Rep.mono _ e3104 h3095
    have h3109 := Rep.mono _ e3104 h3096
    have h3110 := Rep.mono _ e3104 r3092
    refine o_cons ?_
    obtain ⟨x3112, hx3113, h⟩ := bindS h
    refine c_i w3101 (e_var (R := rI) (x := size_2996) rfl rfl) hx3113 ?_
    intro H3114 w3115
    refine o_cons ?_
    obtain ⟨x3117, hx3118, h⟩ := bindS h
    refine c_i w3115 e_int hx3118 ?_
    intro H3119 w3120
    refine o_nil ?_
    obtain ⟨x3122, hx3123, h⟩ := bindS h
    refine c_p1 (i := 0) (j := (x3098, x3112, x3117, ())) w3120 rfl ⟨_, _, rfl, h3105, _, _, rfl, rfl, _, _, rfl, rfl, rfl⟩ hx3123 ?_
    intro u3124 H3125 G3126 w3127 e3128 r3129
    have h3130 := Rep.mono _ e3128 h3106
    have h3131 := Rep.mono _ e3128 h3107
    have h3132 := Rep.mono _ e3128 h3108
    have h3133 := Rep.mono _ e3128 h3109
    have h3134 := Rep.mono _ e3128 h3110
    have h3135 := Rep.mono _ e3128 h3105
    have w3127 : Wo G H (List.map (fun c => c.1) (tb K)) G3126 H3125 ((p2972, cL rI x3122.2) :: (tb K)) := w3127
    refine x_setO ?_
    refine o_call ?_
    refine o_cons ?_
    obtain ⟨x3136, hx3137, h⟩ := bindS h
    refine c_e w3127 (e_var (R := (rTup (aC rS (aC rS (aC rI (aC rI aN)))))) (x := x3085.1) rfl h3134) hx3137 ?_
    intro v3140 H3138 G3141 w3139 e3142 h3143
    have h3144 := Rep.mono _ e3142 h3130
    have h3145 := Rep.mono _ e3142 h3131
    have h3146 := Rep.mono _ e3142 h3132
    have h3147 := Rep.mono _ e3142 h3133
    have h3148 := Rep.mono _ e3142 h3134
    have h3149 := Rep.mono _ e3142 r3129
    refine o_nil ?_
    obtain ⟨x3151, hx3152, h⟩ := bindS h
    refine c_pmJ [1] (i := (x3136, ())) (s := ()) (s' := ()) w3139 ⟨rfl, trivial⟩ ⟨_, _, rfl, h3143, rfl⟩ (uM_to hx3152) rfl (fun u3153 H3154 G3155 w3156 e3157 r3158 => ?_)
    have h3159 := Rep.mono _ e3157 h3144
    have h3160 := Rep.mono _ e3157 h3145
    have h3161 := Rep.mono _ e3157 h3146
    have h3162 := Rep.mono _ e3157 h3147
    have h3163 := Rep.mono _ e3157 h3148
    have h3164 := Rep.mono _ e3157 h3149
    have h3165 := Rep.mono _ e3157 h3143
    have w3156 : Wo G H (List.map (fun c => c.1) (tb K)) G3155 H3154 ((p2972, cL rI x3122.2) :: (tb K)) := w3156
    refine x_setO ?_
    refine o_call ?_
    refine o_cons ?_
    obtain ⟨x3166, hx3167, h⟩ := bindS h
    refine c_e w3156 (e_var (R := (rTup (aC rS (aC rS (aC rI (aC rI aN)))))) (x := x3122.1) rfl h3164) hx3167 ?_
    intro v3170 H3168 G3171 w3169 e3172 h3173
    have h3174 := Rep.mono _ e3172 h3159
    have h3175 := Rep.mono _ e3172 h3160
    have h3176 := Rep.mono _ e3172 h3161
    have h3177 := Rep.mono _ e3172 h3162
    have h3178 := Rep.mono _ e3172 h3163
    have h3179 := Rep.mono _ e3172 h3164
    have h3180 := Rep.mono _ e3172 r3158
    refine o_nil ?_
    obtain ⟨x3182, hx3183, h⟩ := bindS h
    refine c_pmJ [1] (i := (x3166, ())) (s := ()) (s' := ()) w3169 ⟨rfl, trivial⟩ ⟨_, _, rfl, h3173, rfl⟩ (uM_to hx3183) rfl (fun u3184 H3185 G3186 w3187 e3188 r3189 => ?_)
    have h3190 := Rep.mono _ e3188 h3174
    have h3191 := Rep.mono _ e3188 h3175
    have h3192 := Rep.mono _ e3188 h3176
    have h3193 := Rep.mono _ e3188 h3177
    have h3194 := Rep.mono _ e3188 h3178
    have h3195 := Rep.mono _ e3188 h3179
    have h3196 := Rep.mono _ e3188 h3180
    have h3197 := Rep.mono _ e3188 h3173
    have w3187 : Wo G H (List.map (fun c => c.1) (tb K)) G3186 H3185 ((p2972, cL rI x3122.2) :: (tb K)) := w3187
    refine o_slots (σ' := [some vscript0, some (V.ref p2972), some (V.ref p2986), some (V.int size_2996), some v3005, some (V.ref p3048), some u3087, some u3124, some u3153, some u3184, none, none, none, none, none, none, none]) rfl ?_
    obtain ⟨s3231, hx3232, h⟩ := bindS h
    refine o_cut (fun σ' H' => ∃ v3233 : V, ∃ v3235 : V, ∃ G' : Hp, Wo G H (List.map (fun c => c.1) (tb K)) G' H' ((p2972, cL rI x3122.2) :: (tb K)) ∧ Evl.Ex G3186 G' ∧ σ' = [some vscript0, some (V.ref p2972), some (V.ref p2986), some (V.int size_2996), some v3005, some (V.ref p3048), some u3087, some v3233, some u3153, some v3235, none, none, none, none, none, none, none] ∧ (rTup (aC rS (aC rS (aC rI (aC rI aN))))).r G' v3233 s3231.1 ∧ (rSq w K mg base).r G' v3235 s3231.2) ?_ ?_
    · obtain ⟨b3198, hx3240, hx3232⟩ := bindS hx3232
      refine x_if w3187 (et_orP (et_T (e_op rr_eqS (e_prj (k := 0) (pr := fun i => i.1) (e_var (R := (rTup (aC rS (aC rS (aC rI (aC rI aN)))))) (x := x3122.1) rfl (Rep.mono _ w3187.ex h3195)) (fun h => by obtain ⟨v0, _, rfl, h0, v1, _, rfl, h1, v2, _, rfl, h2, v3, _, rfl, h3, rfl⟩ := h; exact ⟨_, rfl, h0⟩)) e_str)) (et_andP (et_T (e_op rr_eqS (e_prj (k := 0) (pr := fun i => i.1) (e_var (R := (rTup (aC rS (aC rS (aC rI (aC rI aN)))))) (x := x3122.1) rfl (Rep.mono _ w3187.ex h3195)) (fun h => by obtain ⟨v0, _, rfl, h0, v1, _, rfl, h1, v2, _, rfl, h2, v3, _, rfl, h3, rfl⟩ := h; exact ⟨_, rfl, h0⟩)) e_str)) (et_T (e_op rr_eqS (e_prj (k := 0) (pr := fun i => i.1) (e_var (R := (rTup (aC rS (aC rS (aC rI (aC rI aN)))))) (x := x3085.1) rfl (Rep.mono _ w3187.ex h3194)) (fun h => by obtain ⟨v0, _, rfl, h0, v1, _, rfl, h1, v2, _, rfl, h2, v3, _, rfl, h3, rfl⟩ := h; exact ⟨_, rfl, h0⟩)) e_str)))) (by first | (simp only [be1, bs1, ba1] at hx3240 ⊢; exact hx3240) | exact hx3240) ?_ ?_
      · intro hbb3198 H3241 w3242
        subst hbb3198
        have hx3232 := bifT hx3232
        obtain ⟨right_3243, hx3244, hx3232⟩ := bindS hx3232
        refine x_set w3242 (e_var (R := (rTup (aC rS (aC rS (aC rI (aC rI aN)))))) (x := x3085.1) rfl h3194) hx3244 ?_
        intro v3247 H3245 G3248 w3246 e3249 h3250
        have h3251 := Rep.mono _ e3249 h3190
        have h3252 := Rep.mono _ e3249 h3191
        have h3253 := Rep.mono _ e3249 h3192
        have h3254 := Rep.mono _ e3249 h3193
        have h3255 := Rep.mono _ e3249 h3194
        have h3256 := Rep.mono _ e3249 h3195
        have h3257 := Rep.mono _ e3249 h3196
        have h3258 := Rep.mono _ e3249 r3189
        obtain ⟨two_3259, hx3260, hx3232⟩ := bindS hx3232
        refine x_set w3246 (e_var (R := (rSq w K mg base)) (x := x3151) rfl h3257) hx3260 ?_
        intro v3263 H3261 G3264 w3262 e3265 h3266
        have h3267 := Rep.mono _ e3265 h3251
        have h3268 := Rep.mono _ e3265 h3252
        have h3269 := Rep.mono _ e3265 h3253
        have h3270 := Rep.mono _ e3265 h3254
        have h3271 := Rep.mono _ e3265 h3255
        have h3272 := Rep.mono _ e3265 h3250
        have h3273 := Rep.mono _ e3265 h3257
        have h3274 := Rep.mono _ e3265 h3258
        refine x_next ?_
        have hx3232 : (right_3243, two_3259) = s3231 := Option.some.inj hx3232
        subst hx3232
        exact ⟨v3247, v3263, G3264, w3262, (e3249.trans e3265), rfl, h3272, h3266⟩
      · intro hbb3198 H3275 w3276
        subst hbb3198
        have hx3232 := bifF hx3232
        refine x_next ?_
        have hx3232 : (x3122.1, x3182) = s3231 := Option.some.inj hx3232
        subst hx3232
        exact ⟨u3124, u3184, G3186, w3276, (Evl.Ex.refl _), rfl, h3195, r3189⟩
    · rintro σ' H3284 ⟨v3233, v3235, G3277, w3238, e3237, rfl, h3234, h3236⟩
      have h3278 := Rep.mono _ e3237 h3190
      have h3279 := Rep.mono _ e3237 h3191
      have h3280 := Rep.mono _ e3237 h3192
      have h3281 := Rep.mono _ e3237 h3193
      have h3282 := Rep.mono _ e3237 h3194
      have h3283 := Rep.mono _ e3237 h3196
      refine x_setO ?_
      refine o_op ?_
      refine o_call ?_
      refine o_cons ?_
      refine o_var rfl ?_
      refine o_cons ?_
      obtain ⟨x3285, hx3286, h⟩ := bindS h
      refine c_i w3238 e_int hx3286 ?_
      intro H3287 w3288
      refine o_nil ?_
      obtain ⟨x3290, hx3291, h⟩ := bindS h
      refine c_p1 (i := 0) (j := (x3285, ())) w3288 rfl ⟨_, _, rfl, rfl, rfl⟩ hx3291 ?_
      intro u3292 H3293 G3294 w3295 e3296 r3297
      have h3298 := Rep.mono _ e3296 h3278
      have h3299 := Rep.mono _ e3296 h3279
      have h3300 := Rep.mono _ e3296 h3280
      have h3301 := Rep.mono _ e3296 h3281
      have h3302 := Rep.mono _ e3296 h3282
      have h3303 := Rep.mono _ e3296 h3234
      have h3304 := Rep.mono _ e3296 h3283
      have h3305 := Rep.mono _ e3296 h3236
      cases r3297
      have w3295 : Wo G H (List.map (fun c => c.1) (tb K)) G3294 H3293 ((p2972, cL rI x3290.2) :: (tb K)) := w3295
      obtain ⟨x3307, hx3308, h⟩ := bindS h
      refine c_i w3295 e_int hx3308 ?_
      intro H3309 w3310
      obtain ⟨x3311, hx3312, h⟩ := bindS h
      refine c_rr rr_eqI w3310 rfl rfl hx3312 ?_
      intro u3313 H3314 G3315 w3316 e3317 r3318
      have h3319 := Rep.mono _ e3317 h3298
      have h3320 := Rep.mono _ e3317 h3299
      have h3321 := Rep.mono _ e3317 h3300
      have h3322 := Rep.mono _ e3317 h3301
      have h3323 := Rep.mono _ e3317 h3302
      have h3324 := Rep.mono _ e3317 h3303
      have h3325 := Rep.mono _ e3317 h3304
      have h3326 := Rep.mono _ e3317 h3305
      cases r3318
      refine o_slots (σ' := [some vscript0, some (V.ref p2972), some (V.ref p2986), some (V.int size_2996), some v3005, some (V.ref p3048), some u3087, some v3233, some u3153, some v3235, some (V.bl x3311), none, none, none, none, none, none]) rfl ?_
      obtain ⟨s3400, hx3401, h⟩ := bindS h
      refine o_cut (fun σ' H' => ∃ v3402 : V, ∃ v3404 : V, ∃ G' : Hp, Wo G H (List.map (fun c => c.1) (tb K)) G' H' ((p2972, cL rI x3290.2) :: (tb K)) ∧ Evl.Ex G3315 G' ∧ σ' = [some vscript0, some (V.ref p2972), some (V.ref p2986), some (V.int size_2996), some v3005, some (V.ref p3048), some u3087, some v3233, some u3153, some v3235, some (V.bl x3311), none, some v3404, some v3402, none, none, none] ∧ (rSdL w K mg base).r G' v3402 s3400.1 ∧ (rSum (r_JoinSide w K mg base) (r_MeetSide w K mg base)).r G' v3404 s3400.2) ?_ ?_
      · obtain ⟨b3327, hx3409, hx3401⟩ := bindS hx3401
        refine x_if w3316 (et_B (e_var (R := rB) (x := x3311) rfl rfl)) hx3409 ?_ ?_
        · intro hbb3327 H3410 w3411
          subst hbb3327
          have hx3401 := bifT hx3401
          obtain ⟨whole_3414, hx3415, hx3401⟩ := bindS hx3401
          refine x_set w3411 (e_cv (S := (rSum (r_JoinSide w K mg base) (r_MeetSide w K mg base))) (c := Sum.inr) (e_opJ (T.mo 24 rfl) (e_sqB (e_var (R := (rSq w K mg base)) (x := x3151) rfl h3325)) (e_var (R := (rSq w K mg base)) (x := s3231.2) rfl h3326)) (fun h => h)) (by first | (simp only [be1, bs1, ba1] at hx3415 ⊢; exact hx3415) | exact hx3415) ?_
          intro v3418 H3416 G3419 w3417 e3420 h3421
          have h3422 := Rep.mono _ e3420 h3319
          have h3423 := Rep.mono _ e3420 h3320
          have h3424 := Rep.mono _ e3420 h3321
          have h3425 := Rep.mono _ e3420 h3322
          have h3426 := Rep.mono _ e3420 h3323
          have h3427 := Rep.mono _ e3420 h3324
          have h3428 := Rep.mono _ e3420 h3325
          have h3429 := Rep.mono _ e3420 h3326
          obtain ⟨other_3431, hx3432, hx3401⟩ := bindS hx3401
          refine x_set w3417 (e_cv (e_make (ea_cons (e_cv (c := fun x => x) (e_var (R := (rSq w K mg base)) (x := x3151) rfl h3428) (fun h => h.1)) (ea_cons (e_cv (c := fun x => x) (e_var (R := (rSq w K mg base)) (x := s3231.2) rfl h3429) (fun h => h.1)) ea_nil))) (fun h => sd_MeetSide T h)) (by first | (simp only [be1, bs1, ba1] at hx3432 ⊢; exact hx3432) | exact hx3432) ?_
          intro v3435 H3433 G3436 w3434 e3437 h3438
          have h3439 := Rep.mono _ e3437 h3422
          have h3440 := Rep.mono _ e3437 h3423
          have h3441 := Rep.mono _ e3437 h3424
          have h3442 := Rep.mono _ e3437 h3425
          have h3443 := Rep.mono _ e3437 h3426
          have h3444 := Rep.mono _ e3437 h3427
          have h3445 := Rep.mono _ e3437 h3428
          have h3446 := Rep.mono _ e3437 h3429
          have h3447 := Rep.mono _ e3437 h3421
          refine x_next ?_
          have hx3401 : (other_3431, whole_3414) = s3400 := Option.some.inj hx3401
          subst hx3401
          exact ⟨v3435, v3418, G3436, w3434, (e3420.trans e3437), rfl, h3438, h3447⟩
        · intro hbb3327 H3448 w3449
          subst hbb3327
          have hx3401 := bifF hx3401
          obtain ⟨whole_3452, hx3453, hx3401⟩ := bindS hx3401
          refine x_set w3449 (e_cv (S := (rSum (r_JoinSide w K mg base) (r_MeetSide w K mg base))) (c := Sum.inl) (e_opJ (T.mo 25 rfl) (e_sqB (e_var (R := (rSq w K mg base)) (x := x3151) rfl h3325)) (e_var (R := (rSq w K mg base)) (x := s3231.2) rfl h3326)) (fun h => h)) (by first | (simp only [be1, bs1, ba1] at hx3453 ⊢; exact hx3453) | exact hx3453) ?_
          intro v3456 H3454 G3457 w3455 e3458 h3459
          have h3460 := Rep.mono _ e3458 h3319
          have h3461 := Rep.mono _ e3458 h3320
          have h3462 := Rep.mono _ e3458 h3321
          have h3463 := Rep.mono _ e3458 h3322
          have h3464 := Rep.mono _ e3458 h3323
          have h3465 := Rep.mono _ e3458 h3324
          have h3466 := Rep.mono _ e3458 h3325
          have h3467 := Rep.mono _ e3458 h3326
          obtain ⟨other_3469, hx3470, hx3401⟩ := bindS hx3401
          refine x_set w3455 (e_cv (e_make (ea_cons (e_cv (c := fun x => x) (e_var (R := (rSq w K mg base)) (x := x3151) rfl h3466) (fun h => h.1)) (ea_cons (e_cv (c := fun x => x) (e_var (R := (rSq w K mg base)) (x := s3231.2) rfl h3467) (fun h => h.1)) ea_nil))) (fun h => sd_JoinSide T h)) (by first | (simp only [be1, bs1, ba1] at hx3470 ⊢; exact hx3470) | exact hx3470) ?_
          intro v3473 H3471 G3474 w3472 e3475 h3476
          have h3477 := Rep.mono _ e3475 h3460
          have h3478 := Rep.mono _ e3475 h3461
          have h3479 := Rep.mono _ e3475 h3462
          have h3480 := Rep.mono _ e3475 h3463
          have h3481 := Rep.mono _ e3475 h3464
          have h3482 := Rep.mono _ e3475 h3465
          have h3483 := Rep.mono _ e3475 h3466
          have h3484 := Rep.mono _ e3475 h3467
          have h3485 := Rep.mono _ e3475 h3459
          refine x_next ?_
          have hx3401 : (other_3469, whole_3452) = s3400 := Option.some.inj hx3401
          subst hx3401
          exact ⟨v3473, v3456, G3474, w3472, (e3458.trans e3475), rfl, h3476, h3485⟩
      · rintro σ' H3495 ⟨v3402, v3404, G3486, w3407, e3406, rfl, h3403, h3405⟩
        have h3487 := Rep.mono _ e3406 h3319
        have h3488 := Rep.mono _ e3406 h3320
        have h3489 := Rep.mono _ e3406 h3321
        have h3490 := Rep.mono _ e3406 h3322
        have h3491 := Rep.mono _ e3406 h3323
        have h3492 := Rep.mono _ e3406 h3324
        have h3493 := Rep.mono _ e3406 h3325
        have h3494 := Rep.mono _ e3406 h3326
        obtain ⟨b3502, hx3503, h⟩ := bindS h
        refine x_if w3407 (et_or (et_not (et_B (e_two (e_var (R := (rSum (r_JoinSide w K mg base) (r_MeetSide w K mg base))) (x := s3400.2) rfl (Rep.mono _ w3407.ex h3405)) (fun y3496 h3497 => (e_isiO (b := true) h3497 (T.mo 27 rfl) (T.cls 79 rfl) (ki_ok (T.mo 26 rfl)))) (fun y3496 h3497 => (e_isiO (b := true) h3497 (T.mo 29 rfl) (T.cls 84 rfl) (ki_ok (T.mo 28 rfl))))))) (et_not (et_B (e_two (e_var (R := (rSum (r_JoinSide w K mg base) (r_MeetSide w K mg base))) (x := s3400.2) rfl (Rep.mono _ w3407.ex h3405)) (fun y3499 h3500 => (e_isiO (b := true) h3500 (T.mo 27 rfl) (T.cls 79 rfl) (ki_ok (T.mo 30 rfl)))) (fun y3499 h3500 => (e_isiO (b := true) h3500 (T.mo 29 rfl) (T.cls 84 rfl) (ki_ok (T.mo 31 rfl)))))))) hx3503 ?_ ?_
        · intro hbb3502 H3504 w3505
          subst hbb3502
          have h := bifT h
          obtain ⟨a3506, hx3507, h⟩ := bindS h
          have h : a3506 = r := Option.some.inj h
          subst h
          exact x_ret w3505 e_bl hx3507 (fun v9 H9 G9 w9 e9 r9 => k v9 H9 G9 w9.f (selJ_wd (js := [1]) w9.w (by decide) ⟨rfl, trivial⟩) r9)
        · intro hbb3502 H3508 w3509
          subst hbb3502
          have h := bifF h
          refine x_next ?_
          obtain ⟨b3516, hx3517, h⟩ := bindS h
          refine x_if w3509 (et_or (et_T (e_op rr_neB (e_two (e_var (R := (rSum (r_JoinSide w K mg base) (r_MeetSide w K mg base))) (x := s3400.2) rfl (Rep.mono _ w3509.ex h3405)) (fun y3510 h3511 => (e_isiO (b := false) h3511 (T.mo 27 rfl) (T.cls 79 rfl) (ki_ok (T.mo 32 rfl)))) (fun y3510 h3511 => (e_isiO (b := true) h3511 (T.mo 29 rfl) (T.cls 84 rfl) (ki_ok (T.mo 33 rfl))))) (e_var (R := rB) (x := x3311) rfl rfl))) (et_T (e_op rr_eqB (e_two (e_var (R := (rSum (r_JoinSide w K mg base) (r_MeetSide w K mg base))) (x := s3400.2) rfl (Rep.mono _ w3509.ex h3405)) (fun y3513 h3514 => (e_isiO (b := true) h3514 (T.mo 27 rfl) (T.cls 79 rfl) (ki_ok (T.mo 34 rfl)))) (fun y3513 h3514 => (e_isiO (b := false) h3514 (T.mo 29 rfl) (T.cls 84 rfl) (ki_ok (T.mo 35 rfl))))) (e_var (R := rB) (x := x3311) rfl rfl)))) (by first | (simp only [be1, bs1, ba1] at hx3517 ⊢; exact hx3517) | exact hx3517) ?_ ?_
          · intro hbb3516 H3518 w3519
            subst hbb3516
            have h := bifT h
            obtain ⟨a3520, hx3521, h⟩ := bindS h
            have h : a3520 = r := Option.some.inj h
            subst h
            exact x_ret w3519 e_bl hx3521 (fun v9 H9 G9 w9 e9 r9 => k v9 H9 G9 w9.f (selJ_wd (js := [1]) w9.w (by decide) ⟨rfl, trivial⟩) r9)
          · intro hbb3516 H3522 w3523
            subst hbb3516
            have h := bifF h
            refine x_next ?_
            obtain ⟨n3524, hx3525, h⟩ := bindS h
            obtain ⟨xs3526, hx3527, h⟩ := bindS h
            obtain ⟨t3529, hx3530, h⟩ := bindS h
            refine x_forR w3523 (ea_cons (Sim.E.is e_int hx3525) ea_nil) rfl hx3527 (fun i G' H' σ' => ∃ s3531 : (List Int), ∃ u3532 : Option V, ∃ u3533 : Option V, ∃ u3534 : Option V, ∃ u3535 : Option V, Wo G H (List.map (fun c => c.1) (tb K)) G' H' ((p2972, cL rI s3531) :: (tb K)) ∧ Evl.Ex G3486 G' ∧ σ' = [some vscript0, some (V.ref p2972), some (V.ref p2986), some (V.int size_2996), some v3005, some (V.ref p3048), some u3087, some v3233, some u3153, some v3235, some (V.bl x3311), u3535, some v3404, some v3402, u3534, u3533, u3532] ∧ forL (m_law_b1 x3044 size_2996 x2982 x3085 s3231 x3311 s3400 order_3001 x3151) (xs3526.drop i) s3531 = some t3529) ?_ ?_ ?_
            · intro G' H' w' e'
              exact ⟨x3290.2, (none), (none), (none), (none), w', e', rfl, hx3530⟩
            · rintro i3543 x3544 σ' G3539 H3542 hx3545 ⟨s3531, u3532, u3533, u3534, u3535, w3540, e3541, rfl, hm3537⟩
              obtain ⟨q3538, hb3536, hm3537⟩ := forL_at hx3545 hm3537
              have h3546 := Rep.mono _ e3541 h3487
              have h3547 := Rep.mono _ e3541 h3488
              have h3548 := Rep.mono _ e3541 h3489
              have h3549 := Rep.mono _ e3541 h3490
              have h3550 := Rep.mono _ e3541 h3491
              have h3551 := Rep.mono _ e3541 h3492
              have h3552 := Rep.mono _ e3541 h3493
              have h3553 := Rep.mono _ e3541 h3494
              have h3554 := Rep.mono _ e3541 h3403
              have h3555 := Rep.mono _ e3541 h3405
              refine g_name ?_
              unfold m_law_b1 at hb3536
              refine o_slots (σ' := [some vscript0, some (V.ref p2972), some (V.ref p2986), some (V.int size_2996), some v3005, some (V.ref p3048), some u3087, some v3233, some u3153, some v3235, some (V.bl x3311), some (V.int x3544), some v3404, some v3402, u3534, u3533, u3532]) rfl ?_
              obtain ⟨table_3556, hx3557, hb3536⟩ := bindS hb3536
              refine x_setC w3540 (ec_dnew (kf := Sum.inr) (R := rI)) hx3557 ?_
              intro p3560 H3558 G3561 n3562 w3559 e3563
              have h3564 := Rep.mono _ e3563 h3546
              have h3565 := Rep.mono _ e3563 h3547
              have h3566 := Rep.mono _ e3563 h3548
              have h3567 := Rep.mono _ e3563 h3549
              have h3568 := Rep.mono _ e3563 h3550
              have h3569 := Rep.mono _ e3563 h3551
              have h3570 := Rep.mono _ e3563 h3552
              have h3571 := Rep.mono _ e3563 h3553
              have h3572 := Rep.mono _ e3563 h3554
              have h3573 := Rep.mono _ e3563 h3555
              obtain ⟨xs3574, hx3575, hb3536⟩ := bindS hb3536
              obtain ⟨t3577, hx3578, hb3536⟩ := bindS hb3536
              refine x_forL w3559 (e_var (R := (rL rS)) (x := x3044.1) rfl h3567) hx3575 (fun i G' H' σ' => ∃ s3579 : ((List Int) × (List (Str × Int))), ∃ u3580 : Option V, Wo G H (List.map (fun c => c.1) (tb K)) G' H' ((p3560, cM Sum.inr rI s3579.2) :: (p2972, cL rI s3579.1) :: (tb K)) ∧ Evl.Ex G3561 G' ∧ σ' = [some vscript0, some (V.ref p2972), some (V.ref p2986), some (V.int size_2996), some v3005, some (V.ref p3048), some u3087, some v3233, some u3153, some v3235, some (V.bl x3311), some (V.int x3544), some v3404, some v3402, some (V.ref p3560), u3580, u3532] ∧ forS (m_law_b2 size_2996) (xs3574.drop i) s3579 = some t3577) (fun _ _ _ _ ⟨_, _, w, _⟩ => w.ex) ?_ ?_ ?_
              · intro G' H' w' e'
                exact ⟨(s3531, table_3556), (u3533), w', e', rfl, hx3578⟩
              · rintro G3591 e3592 i3588 x3589 v3593 σ' G3584 H3587 hx3590 e3595 ⟨s3579, u3580, w3585, e3586, rfl, hm3582⟩ r3594
                obtain ⟨q3583, hb3581, hm3582⟩ := forS_at hx3590 hm3582
                have h3596 := Rep.mono _ e3586 h3564
                have h3597 := Rep.mono _ e3586 h3565
                have h3598 := Rep.mono _ e3586 h3566
                have h3599 := Rep.mono _ e3586 h3567
                have h3600 := Rep.mono _ e3586 h3568
                have h3601 := Rep.mono _ e3586 h3569
                have h3602 := Rep.mono _ e3586 h3570
                have h3603 := Rep.mono _ e3586 h3571
                have h3604 := Rep.mono _ e3586 h3572
                have h3605 := Rep.mono _ e3586 h3573
                refine g_name ?_
                cases r3594
                unfold m_law_b2 at hb3581
                refine o_slots (σ' := [some vscript0, some (V.ref p2972), some (V.ref p2986), some (V.int size_2996), some v3005, some (V.ref p3048), some u3087, some v3233, some u3153, some v3235, some (V.bl x3311), some (V.int x3544), some v3404, some v3402, some (V.ref p3560), some (V.str x3589), u3532]) rfl ?_
                refine x_putO ?_
                refine o_call ?_
                refine o_cons ?_
                refine o_var rfl ?_
                refine o_cons ?_
                obtain ⟨x3606, hx3607, hb3581⟩ := bindS hb3581
                refine c_i w3585 (e_var (R := rI) (x := size_2996) rfl rfl) hx3607 ?_
                intro H3608 w3609
                refine o_nil ?_
                obtain ⟨x3611, hx3612, hb3581⟩ := bindS hb3581
                refine c_p1 (i := 1) (j := (x3606, ())) w3609 rfl ⟨_, _, rfl, rfl, rfl⟩ hx3612 ?_
                intro u3613 H3614 G3615 w3616 e3617 r3618
                have h3619 := Rep.mono _ e3617 h3596
                have h3620 := Rep.mono _ e3617 h3597
                have h3621 := Rep.mono _ e3617 h3598
                have h3622 := Rep.mono _ e3617 h3599
                have h3623 := Rep.mono _ e3617 h3600
                have h3624 := Rep.mono _ e3617 h3601
                have h3625 := Rep.mono _ e3617 h3602
                have h3626 := Rep.mono _ e3617 h3603
                have h3627 := Rep.mono _ e3617 h3604
                have h3628 := Rep.mono _ e3617 h3605
                cases r3618
                have w3616 : Wo G H (List.map (fun c => c.1) (tb K)) G3615 H3614 ((p3560, cM Sum.inr rI s3579.2) :: (p2972, cL rI x3611.2) :: (tb K)) := w3616
                obtain ⟨k3629, hx3631, hb3581⟩ := bindS hb3581
                obtain ⟨table_3630, hx3632, hb3581⟩ := bindS hb3581
                refine o_putM kyS injS (j := 0) w3616 rfl rfl rfl (e_var (R := rS) (x := x3589) rfl rfl) hx3631 hx3632 ?_
                intro H3633 G3634 w3635 e3636
                have h3637 := Rep.mono _ e3636 h3619
                have h3638 := Rep.mono _ e3636 h3620
                have h3639 := Rep.mono _ e3636 h3621
                have h3640 := Rep.mono _ e3636 h3622
                have h3641 := Rep.mono _ e3636 h3623
                have h3642 := Rep.mono _ e3636 h3624
                have h3643 := Rep.mono _ e3636 h3625
                have h3644 := Rep.mono _ e3636 h3626
                have h3645 := Rep.mono _ e3636 h3627
                have h3646 := Rep.mono _ e3636 h3628
                have w3635 : Wo G H (List.map (fun c => c.1) (tb K)) G3634 H3633 ((p3560, cM Sum.inr rI table_3630) :: (p2972, cL rI x3611.2) :: (tb K)) := w3635
                refine x_next ?_
                have hb3581 : (x3611.2, table_3630) = q3583 := Option.some.inj hb3581
                subst hb3581
                exact ⟨G3634, (e3595.trans (e3617.trans e3636)), (x3611.2, table_3630), (some (V.str x3589)), w3635, ((e3586.trans e3617).trans e3636), rfl, hm3582⟩
              · rintro σ' G3647 H3650 e3651 ⟨s3579, u3580, w3648, e3649, rfl, hm3582⟩
                have hm3582 := forS_end hm3582
                subst hm3582
                have h3653 := Rep.mono _ e3649 h3564
                have h3654 := Rep.mono _ e3649 h3565
                have h3655 := Rep.mono _ e3649 h3566
                have h3656 := Rep.mono _ e3649 h3567
                have h3657 := Rep.mono _ e3649 h3568
                have h3658 := Rep.mono _ e3649 h3569
                have h3659 := Rep.mono _ e3649 h3570
                have h3660 := Rep.mono _ e3649 h3571
                have h3661 := Rep.mono _ e3649 h3572
                have h3662 := Rep.mono _ e3649 h3573
                obtain ⟨G3663, w3664, e3665, h3666⟩ := w3648.freezeC fzM (i := 0) rfl n3562
                have h3667 := Rep.mono _ e3665 h3653
                have h3668 := Rep.mono _ e3665 h3654
                have h3669 := Rep.mono _ e3665 h3655
                have h3670 := Rep.mono _ e3665 h3656
                have h3671 := Rep.mono _ e3665 h3657
                have h3672 := Rep.mono _ e3665 h3658
                have h3673 := Rep.mono _ e3665 h3659
                have h3674 := Rep.mono _ e3665 h3660
                have h3675 := Rep.mono _ e3665 h3661
                have h3676 := Rep.mono _ e3665 h3662
                have w3664 : Wo G H (List.map (fun c => c.1) (tb K)) G3663 H3650 ((p2972, cL rI s3579.1) :: (tb K)) := w3664
                obtain ⟨due_3677, hx3678, hb3536⟩ := bindS hb3536
                refine x_set w3664 (e_call (ea_cons (e_var (R := (rL rI)) (x := x2982.1) rfl h3668) (ea_cons (e_var (R := (rTup (aC rS (aC rS (aC rI (aC rI aN)))))) (x := x3085.1) rfl h3671) (ea_cons (e_var (R := (rTup (aC rS (aC rS (aC rI (aC rI aN)))))) (x := s3231.1) rfl h3672) (ea_cons (e_var (R := rB) (x := x3311) rfl rfl) (ea_cons (e_var (R := (rM Sum.inr rI)) (x := s3579.2) rfl h3666) ea_nil)))))) (by first | (simp only [be1, bs1, ba1] at hx3678 ⊢; exact hx3678) | exact hx3678) ?_
                intro v3681 H3679 G3682 w3680 e3683 h3684
                have h3685 := Rep.mono _ e3683 h3667
                have h3686 := Rep.mono _ e3683 h3668
                have h3687 := Rep.mono _ e3683 h3669
                have h3688 := Rep.mono _ e3683 h3670
                have h3689 := Rep.mono _ e3683 h3671
                have h3690 := Rep.mono _ e3683 h3672
                have h3691 := Rep.mono _ e3683 h3673
                have h3692 := Rep.mono _ e3683 h3674
                have h3693 := Rep.mono _ e3683 h3675
                have h3694 := Rep.mono _ e3683 h3676
                have h3695 := Rep.mono _ e3683 h3666
                refine o_slots (σ' := [some vscript0, some (V.ref p2972), some (V.ref p2986), some (V.int size_2996), some v3005, some (V.ref p3048), some u3087, some v3233, some u3153, some v3235, some (V.bl x3311), some (V.int x3544), some v3404, some v3402, some (V.ref p3560), u3580, some v3681]) rfl ?_
                obtain ⟨b3701, hx3702, hb3536⟩ := bindS hb3536
                refine x_if w3680 (et_or (et_T (e_op rr_neDD (e_call (ea_cons (e_two (e_var (R := (rSum (r_JoinSide w K mg base) (r_MeetSide w K mg base))) (x := s3400.2) rfl (Rep.mono _ w3680.ex h3694)) (fun y3696 h3697 => (e_cv h3697 (fun h => sd_JoinSide T h))) (fun y3696 h3697 => (e_cv h3697 (fun h => sd_MeetSide T h)))) (ea_cons (e_var (R := (r_Order K)) (x := order_3001) rfl (Rep.mono _ w3680.ex h3687)) (ea_cons (e_var (R := (rM Sum.inr rI)) (x := s3579.2) rfl (Rep.mono _ w3680.ex h3695)) ea_nil)))) (e_var (R := (rD K)) (x := due_3677) rfl (Rep.mono _ w3680.ex h3684)))) (et_T (e_op rr_neDD (e_call (ea_cons (e_var (R := (rSdL w K mg base)) (x := s3400.1) rfl (Rep.mono _ w3680.ex h3693)) (ea_cons (e_var (R := (r_Order K)) (x := order_3001) rfl (Rep.mono _ w3680.ex h3687)) (ea_cons (e_var (R := (rM Sum.inr rI)) (x := s3579.2) rfl (Rep.mono _ w3680.ex h3695)) ea_nil)))) (e_var (R := (rD K)) (x := due_3677) rfl (Rep.mono _ w3680.ex h3684))))) (by first | (simp only [be1, bs1, ba1] at hx3702 ⊢; exact hx3702) | exact hx3702) ?_ ?_
                · intro hbb3701 H3703 w3704
                  subst hbb3701
                  have hb3536 := bifT hb3536
                  obtain ⟨a3705, hx3706, hb3536⟩ := bindS hb3536
                  have hb3536 : some (Stp.rt a3705) = some q3538 := hb3536
                  cases hb3536
                  have hm3537 : some (Sum.inr a3705) = some t3529 := hm3537
                  cases hm3537
                  have h : a3705 = r := Option.some.inj h
                  subst h
                  exact x_ret w3704 e_bl hx3706 (fun v9 H9 G9 w9 e9 r9 => k v9 H9 G9 w9.f (selJ_wd (js := [1]) w9.w (by decide) ⟨rfl, trivial⟩) r9)
                · intro hbb3701 H3707 w3708
                  subst hbb3701
                  have hb3536 := bifF hb3536
                  refine x_next ?_
                  obtain ⟨b3714, hx3715, hb3536⟩ := bindS hb3536
                  refine x_if w3708 (et_T (e_op rr_neDD (e_call (ea_cons (e_two (e_var (R := (rSum (r_JoinSide w K mg base) (r_MeetSide w K mg base))) (x := s3400.2) rfl (Rep.mono _ w3708.ex h3694)) (fun y3709 h3710 => (e_fld 0 (fun (o : m_JoinSide) => o.left) h3710 (T.cls 79 rfl) (T.noat 80 rfl) (by decide +kernel) (fun _ => rfl))) (fun y3709 h3710 => (e_fld 0 (fun (o : m_MeetSide) => o.left) h3710 (T.cls 84 rfl) (T.noat 85 rfl) (by decide +kernel) (fun _ => rfl)))) (ea_cons (e_var (R := (r_Order K)) (x := order_3001) rfl (Rep.mono _ w3708.ex h3687)) (ea_cons (e_var (R := (rM Sum.inr rI)) (x := s3579.2) rfl (Rep.mono _ w3708.ex h3695)) ea_nil)))) (e_call (ea_cons (e_cv (c := fun x => x) (e_var (R := (rSq w K mg base)) (x := x3151) rfl (Rep.mono _ w3708.ex h3691)) (fun h => h.1)) (ea_cons (e_var (R := (r_Order K)) (x := order_3001) rfl (Rep.mono _ w3708.ex h3687)) (ea_cons (e_var (R := (rM Sum.inr rI)) (x := s3579.2) rfl (Rep.mono _ w3708.ex h3695)) ea_nil)))))) (by first | (simp only [be1, bs1, ba1] at hx3715 ⊢; exact hx3715) | exact hx3715) ?_ ?_
                  · intro hbb3714 H3716 w3717
                    subst hbb3714
                    have hb3536 := bifT hb3536
                    obtain ⟨a3718, hx3719, hb3536⟩ := bindS hb3536
                    have hb3536 : some (Stp.rt a3718) = some q3538 := hb3536
                    cases hb3536
                    have hm3537 : some (Sum.inr a3718) = some t3529 := hm3537
                    cases hm3537
                    have h : a3718 = r := Option.some.inj h
                    subst h
                    exact x_ret w3717 e_bl hx3719 (fun v9 H9 G9 w9 e9 r9 => k v9 H9 G9 w9.f (selJ_wd (js := [1]) w9.w (by decide) ⟨rfl, trivial⟩) r9)
                  · intro hbb3714 H3720 w3721
                    subst hbb3714
                    have hb3536 := bifF hb3536
                    refine x_next ?_
                    obtain ⟨b3727, hx3728, hb3536⟩ := bindS hb3536
                    refine x_if w3721 (et_T (e_op rr_neDD (e_call (ea_cons (e_two (e_var (R := (rSum (r_JoinSide w K mg base) (r_MeetSide w K mg base))) (x := s3400.2) rfl (Rep.mono _ w3721.ex h3694)) (fun y3722 h3723 => (e_fld 1 (fun (o : m_JoinSide) => o.right) h3723 (T.cls 79 rfl) (T.noat 81 rfl) (by decide +kernel) (fun _ => rfl))) (fun y3722 h3723 => (e_fld 1 (fun (o : m_MeetSide) => o.right) h3723 (T.cls 84 rfl) (T.noat 86 rfl) (by decide +kernel) (fun _ => rfl)))) (ea_cons (e_var (R := (r_Order K)) (x := order_3001) rfl (Rep.mono _ w3721.ex h3687)) (ea_cons (e_var (R := (rM Sum.inr rI)) (x := s3579.2) rfl (Rep.mono _ w3721.ex h3695)) ea_nil)))) (e_call (ea_cons (e_cv (c := fun x => x) (e_var (R := (rSq w K mg base)) (x := s3231.2) rfl (Rep.mono _ w3721.ex h3692)) (fun h => h.1)) (ea_cons (e_var (R := (r_Order K)) (x := order_3001) rfl (Rep.mono _ w3721.ex h3687)) (ea_cons (e_var (R := (rM Sum.inr rI)) (x := s3579.2) rfl (Rep.mono _ w3721.ex h3695)) ea_nil)))))) (by first | (simp only [be1, bs1, ba1] at hx3728 ⊢; exact hx3728) | exact hx3728) ?_ ?_
                    · intro hbb3727 H3729 w3730
                      subst hbb3727
                      have hb3536 := bifT hb3536
                      obtain ⟨a3731, hx3732, hb3536⟩ := bindS hb3536
                      have hb3536 : some (Stp.rt a3731) = some q3538 := hb3536
                      cases hb3536
                      have hm3537 : some (Sum.inr a3731) = some t3529 := hm3537
                      cases hm3537
                      have h : a3731 = r := Option.some.inj h
                      subst h
                      exact x_ret w3730 e_bl hx3732 (fun v9 H9 G9 w9 e9 r9 => k v9 H9 G9 w9.f (selJ_wd (js := [1]) w9.w (by decide) ⟨rfl, trivial⟩) r9)
                    · intro hbb3727 H3733 w3734
                      subst hbb3727
                      have hb3536 := bifF hb3536
                      refine x_next ?_
                      refine x_next ?_
                      have hb3536 : Stp.nx s3579.1 = q3538 := Option.some.inj hb3536
                      subst hb3536
                      exact ⟨G3682, s3579.1, (some v3681), (u3580), (some (V.ref p3560)), (some (V.int x3544)), w3734, ((((e3541.trans e3563).trans e3649).trans e3665).trans e3683), rfl, hm3537⟩
            · rintro σ' G3735 H3738 ⟨s3531, u3532, u3533, u3534, u3535, w3736, e3737, rfl, hm3537⟩
              have hm3537 := forL_end hm3537
              subst hm3537
              have h := elimL h
              have h3740 := Rep.mono _ e3737 h3487
              have h3741 := Rep.mono _ e3737 h3488
              have h3742 := Rep.mono _ e3737 h3489
              have h3743 := Rep.mono _ e3737 h3490
              have h3744 := Rep.mono _ e3737 h3491
              have h3745 := Rep.mono _ e3737 h3492
              have h3746 := Rep.mono _ e3737 h3493
              have h3747 := Rep.mono _ e3737 h3494
              have h3748 := Rep.mono _ e3737 h3403
              have h3749 := Rep.mono _ e3737 h3405
              refine o_slots (σ' := [some vscript0, some (V.ref p2972), some (V.ref p2986), some (V.int size_2996), some v3005, some (V.ref p3048), some u3087, some v3233, some u3153, some v3235, some (V.bl x3311), u3535, some v3404, some v3402, u3534, u3533, u3532]) rfl ?_
              obtain ⟨a3750, hx3751, h⟩ := bindS h
              have h : a3750 = r := Option.some.inj h
              subst h
              exact x_ret w3736 e_bl hx3751 (fun v9 H9 G9 w9 e9 r9 => k v9 H9 G9 w9.f (selJ_wd (js := [1]) w9.w (by decide) ⟨rfl, trivial⟩) r9)
end
end My
namespace My
open PySem L2 Sim
section
variable {α β γ σ ρ : Type}
theorem tab_len {n : Nat} {f : Nat → α} : (tab n f).length = n := by simp [tab]
theorem tab_get {n : Nat} {f : Nat → α} {i : Nat} (h : i < n) : (tab n f)[i]? = some (f i) := by
  simp [tab, List.getElem?_map, List.getElem?_range h]
theorem tab_mem {n : Nat} {f : Nat → α} {x : α} : x ∈ tab n f ↔ ∃ i, i < n ∧ f i = x := by simp [tab]
theorem tab_congr {n : Nat} {f g : Nat → α} (h : ∀ i < n, f i = g i) : tab n f = tab n g :=
  List.map_congr_left fun i hi => h i (List.mem_range.mp hi)
theorem ixN_nat {n i : Nat} (h : i < n) : ixN n (i : Int) = some i := by
  unfold ixN
  rw [if_pos (by omega), if_pos (by omega)]
  rfl
theorem atI_nat {xs : List α} {i : Nat} (h : i < xs.length) : atI xs (i : Int) = some xs[i] := by
  unfold atI
  rw [ixN_nat h]
  exact List.getElem?_eq_getElem h
theorem atI_tab {n : Nat} {f : Nat → α} {i : Nat} (h : i < n) : atI (tab n f) (i : Int) = some (f i) := by
  unfold atI
  rw [ixN_nat (by rw [tab_len]; exact h)]
  exact tab_get h
theorem rngM0 {n : Nat} (h : n ≤ 100000) : rngM 0 (n : Int) = some (tab n fun i => (i : Int)) := by
  unfold rngM
  rw [if_pos (by omega)]
  unfold rng tab
  simp
theorem rngM1 {i n : Nat} (h : n ≤ 100000) (h' : i ≤ 100000) : rngM ((i : Int)) (n : Int) = some (tab (n - i) fun k => ((i + k : Nat) : Int)) := by
  unfold rngM
  rw [if_pos (by omega)]
  unfold rng tab
  have : ((n : Int) - (i : Int)).toNat = n - i := by omega
  rw [this]
  simp
theorem mapO_map {f : β → Option γ} {a : α → β} {g : α → γ} : ∀ {xs : List α}, (∀ x ∈ xs, f (a x) = some (g x)) → mapO f (xs.map a) = some (xs.map g)
  | [], _ => rfl
  | x :: xs, h => by
    show (f (a x) >>= fun y => mapO f (xs.map a) >>= fun ys => some (y :: ys)) = _
    rw [h x (List.mem_cons_self ..), mapO_map (fun y hy => h y (List.mem_cons_of_mem _ hy))]
    rfl
theorem lcM_map {p' : β → Option Bool} {f : β → Option γ} {a : α → β} {p : α → Bool} {g : α → γ} : ∀ {xs : List α}, (∀ x ∈ xs, p' (a x) = some (p x)) → (∀ x ∈ xs, f (a x) = some (g x)) →
    lcM p' f (xs.map a) = some ((xs.filter p).map g)
  | [], _, _ => rfl
  | x :: xs, h, h' => by
    show (p' (a x) >>= fun b => bif b then f (a x) >>= fun y => lcM p' f (xs.map a) >>= fun ys => some (y :: ys) else lcM p' f (xs.map a)) = _
    rw [h x (List.mem_cons_self ..), lcM_map (fun y hy => h y (List.mem_cons_of_mem _ hy)) (fun y hy => h' y (List.mem_cons_of_mem _ hy)), h' x (List.mem_cons_self ..)]
    cases e : p x <;> simp [List.filter_cons, e]
theorem sz_t {n : Nat} (h : n < 100000) : sz n = true := by simp [sz, h]
theorem mapS_tab {n : Nat} {a : Nat → β} {f : β → Option γ} {g : Nat → γ} (hn : n < 100000) (h : ∀ i < n, f (a i) = some (g i)) : mapS f (tab n a) = some (tab n g) := by
  unfold mapS
  rw [tab_len, sz_t hn]
  exact mapO_map fun x hx => h x (List.mem_range.mp hx)
theorem mapS_map {xs : List α} {f : α → Option β} {g : α → β} (hn : xs.length < 100000) (h : ∀ x ∈ xs, f x = some (g x)) : mapS f xs = some (xs.map g) := by
  unfold mapS
  rw [sz_t hn]
  have := mapO_map (f := f) (a := id) (g := g) (xs := xs) h
  rwa [List.map_id] at this
theorem lcS_tab {n : Nat} {a : Nat → β} {p' : β → Option Bool} {f : β → Option γ} {p : Nat → Bool} {g : Nat → γ} (hn : n < 100000) (h : ∀ i < n, p' (a i) = some (p i)) (h' : ∀ i < n, f (a i) = some (g i)) :
    lcS p' f (tab n a) = some (((List.range n).filter p).map g) := by
  unfold lcS
  rw [tab_len, sz_t hn]
  exact lcM_map (fun x hx => h x (List.mem_range.mp hx)) (fun x hx => h' x (List.mem_range.mp hx))
theorem lcS_map {xs : List α} {a : α → β} {p' : β → Option Bool} {f : β → Option γ} {p : α → Bool} {g : α → γ} (hn : xs.length < 100000) (h : ∀ x ∈ xs, p' (a x) = some (p x)) (h' : ∀ x ∈ xs, f (a x) = some (g x)) :
    lcS p' f (xs.map a) = some ((xs.filter p).map g) := by
  unfold lcS
  rw [List.length_map, sz_t hn]
  exact lcM_map h h'
theorem forL_nx {body : α → Unit → Option (Stp Unit ρ)} : ∀ {xs : List α}, (∀ x ∈ xs, body x () = some (.nx ())) → forL body xs () = some (.inl ())
  | [], _ => rfl
  | x :: xs, h => by
    show (body x () >>= stpK (forL body xs)) = _
    rw [h x (List.mem_cons_self ..)]
    exact forL_nx fun y hy => h y (List.mem_cons_of_mem _ hy)
theorem forL_nxT {body : α → Unit → Option (Stp Unit ρ)} {n : Nat} {a : Nat → α} (h : ∀ i < n, body (a i) () = some (.nx ())) : forL body (tab n a) () = some (.inl ()) :=
  forL_nx fun x hx => by obtain ⟨i, hi, rfl⟩ := tab_mem.mp hx; exact h i hi
theorem forL_find {body : β → Unit → Option (Stp Unit ρ)} {a : α → β} {p : α → Bool} {g : α → ρ} : ∀ {xs : List α}, (∀ x ∈ xs, body (a x) () = some (bif p x then .rt (g x) else .nx ())) →
    forL body (xs.map a) () = some (match xs.find? p with | some x => .inr (g x) | none => .inl ())
  | [], _ => rfl
  | x :: xs, h => by
    show (body (a x) () >>= stpK (forL body (xs.map a))) = _
    rw [h x (List.mem_cons_self ..)]
    cases e : p x
    · rw [List.find?_cons, e]
      exact forL_find fun y hy => h y (List.mem_cons_of_mem _ hy)
    · rw [List.find?_cons, e]; rfl
theorem forS_un {body : α → Unit → Option Unit} : ∀ {xs : List α}, (∀ x ∈ xs, body x () = some ()) → forS body xs () = some ()
  | [], _ => rfl
  | x :: xs, h => by
    show (body x () >>= forS body xs) = _
    rw [h x (List.mem_cons_self ..)]
    exact forS_un fun y hy => h y (List.mem_cons_of_mem _ hy)
/-- a loop that keeps something -/
theorem forS_keep {body : α → σ → Option σ} {I : Nat → σ → Prop} : ∀ {xs : List α} {k : Nat} {s : σ}, I k s → (∀ x ∈ xs, ∀ j s, k ≤ j → j < k + xs.length → I j s → ∃ s', body x s = some s' ∧ I (j + 1) s') →
    ∃ s', forS body xs s = some s' ∧ I (k + xs.length) s'
  | [], k, s, h, _ => ⟨s, rfl, h⟩
  | x :: xs, k, s, h, hs => by
    obtain ⟨s1, e1, h1⟩ := hs x (List.mem_cons_self ..) k s (Nat.le_refl _) (by simp) h
    obtain ⟨s2, e2, h2⟩ := forS_keep (xs := xs) (k := k + 1) h1 fun y hy j t hj hj' => hs y (List.mem_cons_of_mem _ hy) j t (by omega) (by simp; omega)
    refine ⟨s2, ?_, ?_⟩
    · show (body x s >>= forS body xs) = _
      rw [e1]; exact e2
    · have : k + (x :: xs).length = k + 1 + xs.length := by simp; omega
      rw [this]; exact h2
/-- a loop whose k-th state is told -/
theorem forS_tab {body : α → σ → Option σ} {a : Nat → α} {S : Nat → σ} {n : Nat} (h : ∀ i < n, body (a i) (S i) = some (S (i + 1))) : forS body (tab n a) (S 0) = some (S n) := by
  suffices h' : ∀ m k, k + m = n → forS body ((List.range' k m).map a) (S k) = some (S n) by
    have := h' n 0 (by omega)
    rw [← List.range_eq_range'] at this
    exact this
  intro m
  induction m with
  | zero => intro k hk; have : k = n := by omega
            subst this; rfl
  | succ m ih =>
    intro k hk
    show (body (a k) (S k) >>= forS body ((List.range' (k + 1) m).map a)) = _
    rw [h k (by omega)]
    exact ih (k + 1) (by omega)
end

abbrev tab2 (n : Nat) (R : Nat → Nat → α) : List (List α) := tab n fun a => tab n fun b => R a b
theorem atI2 {n : Nat} {R : Nat → Nat → α} {a b : Nat} (ha : a < n) (hb : b < n) : (atI (tab2 n R) (a : Int) >>= fun t => atI t (b : Int)) = some (R a b) := by
  rw [atI_tab ha]
  exact atI_tab hb
theorem tab2_congr {n : Nat} {R S : Nat → Nat → α} (h : ∀ a < n, ∀ b < n, R a b = S a b) : tab2 n R = tab2 n S :=
  tab_congr fun a ha => tab_congr fun b hb => h a ha b hb
theorem mul_small {a b : Nat} (ha : a ≤ 12) : mulM (a : Int) (b : Int) = some (((a * b : Nat)) : Int) := by
  unfold mulM
  rw [if_pos (Or.inl (by omega))]
  simp
/-- the pairs lie below n -/
def InR (n : Nat) (ps : List (Int × Int)) : Prop := ∀ p ∈ ps, ∃ a b : Nat, a < n ∧ b < n ∧ p = ((a : Int), (b : Int))
theorem InR.tail {n : Nat} {p} {ps : List (Int × Int)} (h : InR n (p :: ps)) : InR n ps := fun q hq => h q (List.mem_cons_of_mem _ hq)
theorem ix_lt {n a b : Nat} (ha : a < n) (hb : b < n) : a * n + b < n * n := by
  have : (a + 1) * n ≤ n * n := Nat.mul_le_mul_right n ha
  rw [Nat.succ_mul] at this
  omega
theorem ix_inj {n a b c d : Nat} (hb : b < n) (hd : d < n) (h : a * n + b = c * n + d) : a = c ∧ b = d := by
  have e : (a * n + b) / n = (c * n + d) / n := by rw [h]
  have e2 : (a * n + b) % n = (c * n + d) % n := by rw [h]
  rw [Nat.mul_comm a n, Nat.mul_comm c n, Nat.mul_add_div (by omega), Nat.mul_add_div (by omega), Nat.div_eq_of_lt hb, Nat.div_eq_of_lt hd] at e
  rw [Nat.mul_comm a n, Nat.mul_comm c n, Nat.mul_add_mod, Nat.mul_add_mod, Nat.mod_eq_of_lt hb, Nat.mod_eq_of_lt hd] at e2
  exact ⟨by omega, e2⟩
/-! pop -/
section
open PyProof.Rows
theorem ixN_popAt {n k : Nat} (h : k < n) : seqIndex? (k : Int) n = some k := by
  unfold seqIndex?
  have : ¬ ((k : Int) < 0) := by omega
  simp only [this, if_false]
  have h2 : (decide (0 ≤ (k : Int)) && decide ((k : Int) < (n : Int))) = true := by simp; exact h
  rw [if_pos h2]
  rfl
theorem perm_erase {α : Type} : ∀ {xs : List α} {k : Nat} (h : k < xs.length), xs.Perm (xs[k] :: xs.eraseIdx k)
  | x :: xs, 0, _ => .refl _
  | x :: xs, k + 1, h => by
    have h : k < xs.length := by simpa using h
    exact ((perm_erase h).cons x).trans (.swap ..)
/-- a list drawn out in another order -/
theorem popAt_eq {α : Type} {xs : List α} {k : Nat} (h : k < xs.length) (h2 : xs.length < 100000) : popAtM xs (k : Int) = some (xs[k], xs.eraseIdx k) := by
  unfold popAtM
  rw [if_pos (by omega), ixN_popAt h]
  simp only [Option.bind_eq_bind, bs]
  rw [List.getElem?_eq_getElem h]
  rfl
end
end My

namespace My
open PySem L2 Sim
theorem cl_b1 {n : Nat} (hn : n ≤ 12) : ∀ {ps : List (Int × Int)} {s : List Bool} {D : Nat → Nat → Bool}, InR n ps → s.length = n * n → (∀ a < n, ∀ b < n, s[a * n + b]? = some (D a b)) →
    ∃ s', forS (m_closure_b1 (n : Int)) ps s = some s' ∧ s'.length = n * n ∧ ∀ a < n, ∀ b < n, s'[a * n + b]? = some (D a b || decide (((a : Int), (b : Int)) ∈ ps))
  | [], s, D, _, hl, hs => ⟨s, rfl, hl, fun a ha b hb => by simp [hs a ha b hb]⟩
  | p :: ps, s, D, hp, hl, hs => by
    obtain ⟨c, d, hc, hd, rfl⟩ := hp _ (List.mem_cons_self ..)
    have e1 : m_closure_b1 (n : Int) ((c : Int), (d : Int)) s = some (s.set (c * n + d) true) := by
      simp only [m_closure_b1, mul_small (show c ≤ 12 by omega), Option.bind_eq_bind, Option.bind_some]
      rw [show ((c * n : Nat) : Int) + (d : Int) = ((c * n + d : Nat) : Int) by simp]
      unfold setM
      rw [ixN_nat (by rw [hl]; exact ix_lt hc hd)]
      rfl
    obtain ⟨s', e2, h1, h2⟩ := cl_b1 hn (ps := ps) (s := s.set (c * n + d) true) (D := fun a b => D a b || decide (((a : Int), (b : Int)) = ((c : Int), (d : Int)))) hp.tail (by rw [List.length_set]; exact hl) (by
      intro a ha b hb
      rw [List.getElem?_set]
      by_cases e : c * n + d = a * n + b
      · obtain ⟨h1, h2⟩ := ix_inj hd hb e
        subst h1; subst h2
        simp [hl, ix_lt hc hd]
      · rw [if_neg e, hs a ha b hb]
        have : ¬ (((a : Int), (b : Int)) = ((c : Int), (d : Int))) := by
          intro q
          rw [Prod.mk.injEq] at q
          apply e
          rw [show a = c by omega, show b = d by omega]
        simp [this])
    refine ⟨s', ?_, h1, fun a ha b hb => ?_⟩
    · show (m_closure_b1 (n : Int) ((c : Int), (d : Int)) s >>= forS (m_closure_b1 (n : Int)) ps) = _
      rw [e1]; exact e2
    · rw [h2 a ha b hb]
      simp [List.mem_cons, Bool.or_assoc]
def wst (m : Nat) (R : Nat → Nat → Bool) (a b : Nat) : Bool := R a b || (R a m && R m b)
def wsh (R : Nat → Nat → Bool) : Nat → Nat → Nat → Bool
  | 0 => R
  | k + 1 => wst k (wsh R k)
theorem cl_b2 {n m : Nat} {R : Nat → Nat → Bool} (hn : n ≤ 12) (hm : m < n) : m_closure_b2 (n : Int) (m : Int) (tab2 n R) = some (tab2 n (wst m R)) := by
  unfold m_closure_b2
  rw [rngM0 (by omega)]
  simp only [Option.bind_eq_bind, Option.bind_some]
  rw [mapS_tab (g := fun a => tab n fun b => wst m R a b) (by omega)]
  · rfl
  · intro a ha
    rw [mapS_tab (g := fun b => wst m R a b) (by omega)]
    intro b hb
    have h1 := atI2 (R := R) ha hb
    have h2 := atI2 (R := R) ha hm
    have h3 := atI2 (R := R) hm hb
    simp only [Option.bind_eq_bind] at h1 h2 h3
    rw [h1, h2, h3]
    unfold orO andO wst
    cases R a b <;> cases R a m <;> rfl
theorem m_closure_eq {n : Nat} {ps : List (Int × Int)} (hn : n ≤ 12) (hp : InR n ps) :
    m_closure (n : Int) ps = some (tab2 n (wsh (fun a b => a == b || decide (((a : Int), (b : Int)) ∈ ps)) n)) := by
  unfold m_closure
  rw [mul_small hn]
  simp only [Option.bind_eq_bind, Option.bind_some]
  have hnn : n * n ≤ 144 := Nat.mul_le_mul hn hn
  rw [rngM0 (by omega)]
  simp only [Option.bind_some]
  rw [mapS_tab (f := fun _ => some false) (g := fun _ => false) (by omega) (fun _ _ => rfl)]
  simp only [Option.bind_some]
  obtain ⟨s, e, h1, h2⟩ := cl_b1 hn (s := tab (n * n) fun _ => false) (D := fun _ _ => false) hp tab_len (fun a ha b hb => tab_get (ix_lt ha hb))
  rw [e]
  simp only [Option.bind_some]
  rw [rngM0 (by omega)]
  simp only [Option.bind_some]
  rw [mapS_tab (g := fun a => tab n fun b => (a == b || decide (((a : Int), (b : Int)) ∈ ps))) (by omega)]
  · simp only [Option.bind_some]
    have hf := forS_tab (body := m_closure_b2 (n : Int)) (a := fun i : Nat => (i : Int)) (n := n) (S := fun k => tab2 n (wsh (fun a b => a == b || decide (((a : Int), (b : Int)) ∈ ps)) k)) (fun i hi => cl_b2 hn hi)
    exact congrArg (fun z => z.bind some) hf
  · intro a ha
    rw [mapS_tab (g := fun b => (a == b || decide (((a : Int), (b : Int)) ∈ ps))) (by omega)]
    intro b hb
    rw [mul_small (by omega)]
    simp only [Option.bind_some]
    rw [show ((a * n : Nat) : Int) + (b : Int) = ((a * n + b : Nat) : Int) by simp]
    have : atI s ((a * n + b : Nat) : Int) = some (decide (((a : Int), (b : Int)) ∈ ps)) := by
      unfold atI
      rw [ixN_nat (by rw [h1]; exact ix_lt ha hb)]
      have := h2 a ha b hb
      simpa using this
    rw [this]
    unfold orO
    by_cases e : a = b
    · subst e; simp
    · have : ((a : Int) == (b : Int)) = false := by simp; omega
      rw [this]; simp [e]

/-! ### Warshall -/
theorem wsh_mono {R : Nat → Nat → Bool} {a b : Nat} : ∀ {k}, R a b = true → wsh R k a b = true
  | 0, h => h
  | k + 1, h => by
    show wst k (wsh R k) a b = true
    unfold wst
    rw [wsh_mono (k := k) h]
    rfl
theorem wsh_inv {R : Nat → Nat → Bool} : ∀ {k m a b}, m < k → wsh R k a m = true → wsh R k m b = true → wsh R k a b = true
  | k + 1, m, a, b, hm, h1, h2 => by
    have h1 : (wsh R k a m || (wsh R k a k && wsh R k k m)) = true := h1
    have h2 : (wsh R k m b || (wsh R k m k && wsh R k k b)) = true := h2
    show (wsh R k a b || (wsh R k a k && wsh R k k b)) = true
    simp only [Bool.or_eq_true, Bool.and_eq_true] at h1 h2 ⊢
    by_cases e : m = k
    · subst e
      rcases h1 with h1 | h1 <;> rcases h2 with h2 | h2 <;> simp_all
    · have hk : m < k := by omega
      have I := fun {a b : Nat} => wsh_inv (R := R) (k := k) (m := m) (a := a) (b := b) hk
      rcases h1 with h1 | ⟨h1, h1'⟩
      · rcases h2 with h2 | ⟨h2, h2'⟩
        · exact Or.inl (I h1 h2)
        · exact Or.inr ⟨I h1 h2, h2'⟩
      · rcases h2 with h2 | ⟨h2, h2'⟩
        · exact Or.inr ⟨h1, I h1' h2⟩
        · exact Or.inr ⟨h1, h2'⟩
theorem wsh_sound {R : Nat → Nat → Bool} {S : Nat → Nat → Prop} {n : Nat} (ht : ∀ a b c, a < n → b < n → c < n → S a b → S b c → S a c) (hR : ∀ a b, a < n → b < n → R a b = true → S a b) :
    ∀ {k a b}, k ≤ n → a < n → b < n → wsh R k a b = true → S a b
  | 0, a, b, _, ha, hb, h => hR a b ha hb h
  | k + 1, a, b, hk, ha, hb, h => by
    have h : (wsh R k a b || (wsh R k a k && wsh R k k b)) = true := h
    simp only [Bool.or_eq_true, Bool.and_eq_true] at h
    have I := fun {a b : Nat} => wsh_sound (S := S) ht hR (k := k) (a := a) (b := b) (by omega)
    rcases h with h | ⟨h, h'⟩
    · exact I ha hb h
    · exact ht a k b ha (by omega) hb (I ha (by omega) h) (I (by omega) hb h')

/-- an order on the places below n, told by pairs -/
structure Ord (n : Nat) (le : Nat → Nat → Bool) : Prop where
  rf : ∀ a, a < n → le a a = true
  an : ∀ a b, a < n → b < n → le a b = true → le b a = true → a = b
  tr : ∀ a b c, a < n → b < n → c < n → le a b = true → le b c = true → le a c = true
/-- the pairs tell the order -/
structure Gens (n : Nat) (le : Nat → Nat → Bool) (ps : List (Int × Int)) : Prop where
  rg : InR n ps
  sd : ∀ a b, a < n → b < n → ((a : Int), (b : Int)) ∈ ps → le a b = true
  gn : ∀ S : Nat → Nat → Prop, (∀ a, a < n → S a a) → (∀ a b c, a < n → b < n → c < n → S a b → S b c → S a c) → (∀ a b, a < n → b < n → ((a : Int), (b : Int)) ∈ ps → S a b) → ∀ a b, a < n → b < n → le a b = true → S a b
theorem closure_le {n : Nat} {le : Nat → Nat → Bool} {ps : List (Int × Int)} (hn : n ≤ 12) (o : Ord n le) (g : Gens n le ps) : m_closure (n : Int) ps = some (tab2 n le) := by
  rw [m_closure_eq hn g.rg]
  congr 1
  refine tab2_congr fun a ha b hb => ?_
  cases e : le a b with
  | true =>
    refine g.gn (fun a b => wsh (fun a b => a == b || decide (((a : Int), (b : Int)) ∈ ps)) n a b = true) (fun a ha => wsh_mono (by simp)) (fun a b c ha hb hc h1 h2 => wsh_inv hb h1 h2) (fun a b ha hb h => wsh_mono (by simp [h])) a b ha hb e
  | false =>
    cases e2 : wsh (fun a b => a == b || decide (((a : Int), (b : Int)) ∈ ps)) n a b with
    | false => rfl
    | true =>
      have := wsh_sound (S := fun a b => le a b = true) (n := n) o.tr (fun a b ha hb h => by
        simp only [Bool.or_eq_true, decide_eq_true_eq, beq_iff_eq] at h
        rcases h with h | h
        · subst h; exact o.rf a ha
        · exact g.sd a b ha hb h) (Nat.le_refl n) ha hb e2
      rw [e] at this
      cases this
/-- every two have a least above -/
structure Lub (n : Nat) (le : Nat → Nat → Bool) (j : Nat → Nat → Nat) : Prop where
  lt : ∀ a b, a < n → b < n → j a b < n
  l : ∀ a b, a < n → b < n → le a (j a b) = true
  r : ∀ a b, a < n → b < n → le b (j a b) = true
  le : ∀ a b c, a < n → b < n → c < n → le a c = true → le b c = true → le (j a b) c = true
theorem least_above_eq {n : Nat} {le : Nat → Nat → Bool} {j : Nat → Nat → Nat} (hn : n ≤ 12) (o : Ord n le) (L : Lub n le j) {a b : Nat} (ha : a < n) (hb : b < n) :
    m_least_above (tab2 n le) (a : Int) (b : Int) = some (some ((j a b : Nat) : Int)) := by
  unfold m_least_above
  rw [tab_len, rngM0 (by omega)]
  simp only [Option.bind_eq_bind, Option.bind_some]
  rw [lcS_tab (p := fun c => le a c && le b c) (g := fun c => (c : Int)) (by omega) ?h1 (fun _ _ => rfl)]
  case h1 =>
    intro c hc
    have h1 := atI2 (R := le) ha hc
    have h2 := atI2 (R := le) hb hc
    simp only [Option.bind_eq_bind] at h1 h2
    rw [h1, h2]
    unfold andO
    cases le a c <;> rfl
  simp only [Option.bind_some]
  have hU : ∀ c, c ∈ (List.range n).filter (fun c => le a c && le b c) ↔ c < n ∧ le a c = true ∧ le b c = true := fun c => by simp [List.mem_filter]
  generalize hUe : (List.range n).filter (fun c => le a c && le b c) = U at hU
  have hl : U.length ≤ n := by rw [← hUe]; exact Nat.le_trans (List.length_filter_le _ _) (by simp)
  rw [forL_find (p := fun e => (U.filter (fun x => le e x)).length == U.length) (g := fun e => some ((e : Nat) : Int))]
  · have hj : j a b ∈ U := (hU _).mpr ⟨L.lt a b ha hb, L.l a b ha hb, L.r a b ha hb⟩
    have key : ∀ e ∈ U, ((U.filter (fun x => le e x)).length == U.length) = true ↔ e = j a b := by
      intro e he
      rw [beq_iff_eq, List.length_filter_eq_length_iff]
      obtain ⟨h1, h2, h3⟩ := (hU e).mp he
      constructor
      · intro h
        exact o.an e (j a b) h1 (L.lt a b ha hb) (h _ hj) (L.le a b e ha hb h1 h2 h3)
      · rintro rfl x hx
        obtain ⟨k1, k2, k3⟩ := (hU x).mp hx
        exact L.le a b x ha hb k1 k2 k3
    cases hf : U.find? (fun e => (U.filter (fun x => le e x)).length == U.length) with
    | none =>
      have := List.find?_eq_none.mp hf _ hj
      exact absurd ((key _ hj).mpr rfl) this
    | some e =>
      have h1 := List.mem_of_find?_eq_some hf
      have h2 := List.find?_some hf
      have := (key e h1).mp h2
      subst this
      rfl
  · intro e he
    obtain ⟨h1, _, _⟩ := (hU e).mp he
    unfold m_least_above_b1
    rw [lcS_map (p := fun x => le e x) (g := fun c => (c : Int)) (by omega) ?h2 (fun _ _ => rfl)]
    case h2 =>
      intro x hx
      obtain ⟨k1, _, _⟩ := (hU x).mp hx
      exact atI2 h1 k1
    simp only [Option.bind_eq_bind, Option.bind_some, List.length_map]
    have : (((U.filter fun x => le e x).length : Int) == (U.length : Int)) = ((U.filter fun x => le e x).length == U.length) := by
      cases h : ((U.filter fun x => le e x).length == U.length) with
      | true => rw [beq_iff_eq] at h; rw [h]; simp
      | false => rw [beq_eq_false_iff_ne] at h ⊢; omega
    rw [this]
    cases ((U.filter fun x => le e x).length == U.length) <;> rfl
theorem bounds_eq {n : Nat} {le : Nat → Nat → Bool} {j : Nat → Nat → Nat} (hn : n ≤ 12) (o : Ord n le) (L : Lub n le j) : m_bounds_table (tab2 n le) = some (tab2 n fun a b => some ((j a b : Nat) : Int)) := by
  unfold m_bounds_table
  rw [tab_len]
  simp only [Option.bind_eq_bind, Option.bind_some]
  rw [rngM0 (by omega)]
  simp only [Option.bind_some]
  rw [mapS_tab (g := fun a => tab n fun b => some ((j a b : Nat) : Int)) (by omega)]
  · rfl
  · intro a ha
    rw [mapS_tab (g := fun b => some ((j a b : Nat) : Int)) (by omega)]
    intro b hb
    exact least_above_eq hn o L ha hb
theorem first_ring_eq {n : Nat} {le : Nat → Nat → Bool} (hn : n ≤ 12) (o : Ord n le) : m_first_ring (tab2 n le) = some none := by
  unfold m_first_ring
  rw [tab_len]
  simp only [Option.bind_eq_bind, Option.bind_some]
  rw [rngM0 (by omega)]
  simp only [Option.bind_some]
  rw [forL_nxT]
  · rfl
  · intro a ha
    unfold m_first_ring_b1
    rw [tab_len]
    simp only [Option.bind_eq_bind, Option.bind_some]
    rw [show (a : Int) + 1 = ((a + 1 : Nat) : Int) by simp, rngM1 (by omega) (by omega)]
    simp only [Option.bind_some]
    rw [forL_nxT]
    · rfl
    · intro i hi
      have hb : a + 1 + i < n := by omega
      unfold m_first_ring_b2
      have h1 := atI2 (R := le) ha hb
      have h2 := atI2 (R := le) hb ha
      rw [h1, h2]
      unfold andO
      cases e1 : le a (a + 1 + i) with
      | false => rfl
      | true =>
        cases e2 : le (a + 1 + i) a with
        | false => rfl
        | true => exact absurd (o.an _ _ ha hb e1 e2) (by omega)
theorem first_lack_eq {n : Nat} {j : Nat → Nat → Int} (hn : n ≤ 12) : m_first_lack (tab2 n fun a b => some (j a b)) = some none := by
  unfold m_first_lack
  rw [tab_len]
  simp only [Option.bind_eq_bind, Option.bind_some]
  rw [rngM0 (by omega)]
  simp only [Option.bind_some]
  rw [forL_nxT]
  · rfl
  · intro a ha
    unfold m_first_lack_b1
    rw [tab_len]
    simp only [Option.bind_eq_bind, Option.bind_some]
    rw [show (a : Int) + 1 = ((a + 1 : Nat) : Int) by simp, rngM1 (by omega) (by omega)]
    simp only [Option.bind_some]
    rw [forL_nxT]
    · rfl
    · intro i hi
      have hb : a + 1 + i < n := by omega
      unfold m_first_lack_b2
      have h1 := atI2 (R := fun a b => some (j a b)) ha hb
      rw [h1]
      rfl
theorem turned_eq {n : Nat} {le : Nat → Nat → Bool} (hn : n ≤ 12) : m_turned (tab2 n le) = some (tab2 n fun a b => le b a) := by
  unfold m_turned
  rw [tab_len, rngM0 (by omega)]
  simp only [Option.bind_eq_bind, Option.bind_some]
  rw [mapS_tab (g := fun a => tab n fun b => le b a) (by omega)]
  · rfl
  · intro a ha
    rw [mapS_tab (g := fun b => le b a) (by omega)]
    intro b hb
    exact atI2 hb ha
theorem Ord.op {n : Nat} {le : Nat → Nat → Bool} (o : Ord n le) : Ord n (fun a b => le b a) :=
  ⟨o.rf, fun a b ha hb h1 h2 => o.an a b ha hb h2 h1, fun a b c ha hb hc h1 h2 => o.tr c b a hc hb ha h2 h1⟩
theorem maxL_some : ∀ {xs : List Int}, xs ≠ [] → ∃ m, maxL xs = some m
  | [], h => absurd rfl h
  | [x], _ => ⟨x, rfl⟩
  | x :: y :: ys, _ => by
    obtain ⟨m, h⟩ := maxL_some (xs := y :: ys) (by simp)
    exact ⟨_, by unfold maxL; rw [h]; rfl⟩
theorem longest_some {n : Nat} {le : Nat → Nat → Bool} (hn : n ≤ 12) (h0 : 0 < n) : ∃ m, m_longest (tab2 n le) = some m := by
  unfold m_longest
  have hl : (tab2 n le).length = n := tab_len
  rw [mapS_map (g := fun _ => (0 : Int)) (by omega) (fun _ _ => rfl)]
  simp only [Option.bind_eq_bind, Option.bind_some]
  obtain ⟨s, e, hs⟩ := forS_keep (body := m_longest_b1 (tab2 n le)) (xs := tab2 n le) (k := 0) (I := fun _ (s : List Int) => s.length = n) (s := List.map (fun _ => (0 : Int)) (tab2 n le)) (by simp [tab_len]) (by
    intro x _ k s _ _ hs
    unfold m_longest_b1
    simp only [tab_len, Option.bind_eq_bind, Option.bind_some]
    rw [rngM0 (by omega)]
    simp only [Option.bind_some]
    obtain ⟨s2, e2, hs2⟩ := forS_keep (body := m_longest_b2 (tab2 n le)) (xs := tab n fun i => (i : Int)) (k := 0) (I := fun _ (s : List Int) => s.length = n) (s := s) hs (by
      intro x hx k s _ _ hs
      obtain ⟨a, ha, rfl⟩ := tab_mem.mp hx
      unfold m_longest_b2
      simp only [tab_len, Option.bind_eq_bind, Option.bind_some]
      rw [rngM0 (by omega)]
      simp only [Option.bind_some]
      obtain ⟨s3, e3, hs3⟩ := forS_keep (body := m_longest_b3 (a : Int) (tab2 n le)) (xs := tab n fun i => (i : Int)) (k := 0) (I := fun _ (s : List Int) => s.length = n) (s := s) hs (by
        intro x hx k s _ _ hs
        obtain ⟨b, hb, rfl⟩ := tab_mem.mp hx
        unfold m_longest_b3
        have h1 := atI2 (R := le) ha hb
        rw [h1]
        unfold andO
        have g1 := atI_nat (xs := s) (i := b) (by omega)
        have g2 := atI_nat (xs := s) (i := a) (by omega)
        cases e : ((a : Int) == (b : Int)) with
        | true => exact ⟨s, by simp, hs⟩
        | false =>
          cases e2 : le a b with
          | false => exact ⟨s, by simp, hs⟩
          | true =>
            simp only [Bool.not_false, Option.bind_eq_bind, Option.bind_some, cond_true, g1, g2]
            unfold setM
            rw [ixN_nat (by omega)]
            exact ⟨_, rfl, by simp [hs]⟩)
      rw [e3]
      exact ⟨s3, rfl, hs3⟩)
    rw [e2]
    exact ⟨s2, rfl, hs2⟩)
  rw [e]
  obtain ⟨m, hm⟩ := maxL_some (xs := s) (by intro q; subst q; simp at hs; omega)
  exact ⟨m, by simp only [Option.bind_some]; rw [hm]; rfl⟩
/-- a lattice of n places -/
structure Lat (n : Nat) (le : Nat → Nat → Bool) (j m : Nat → Nat → Nat) : Prop where
  lo : 1 ≤ n
  hi : n ≤ 12
  o : Ord n le
  j : Lub n le j
  m : Lub n (fun a b => le b a) m
structure IsOrd (n : Nat) (le : Nat → Nat → Bool) (j m : Nat → Nat → Nat) (o : m_Order) : Prop where
  above : o.f_above = tab2 n le
  joins : o.f_joins = tab2 n fun a b => some ((j a b : Nat) : Int)
  meets : o.f_meets = tab2 n fun a b => some ((m a b : Nat) : Int)
  members : o.f_members = tab n fun i => (i : Int)
  height : m_longest (tab2 n le) = some o.f_height
theorem Order_init_eq {n : Nat} {le : Nat → Nat → Bool} {j m : Nat → Nat → Nat} {ps : List (Int × Int)} (L : Lat n le j m) (g : Gens n le ps) : ∃ o, m_Order___init__ (n : Int) ps = some o ∧ IsOrd n le j m o := by
  have hn := L.hi
  have h0 := L.lo
  unfold m_Order___init__
  have e1 : ((decide ((n : Int) < 1)) || (decide ((12 : Int) < (n : Int)))) = false := by simp; omega
  rw [e1]
  simp only [Option.bind_eq_bind, bs, cond_false]
  rw [forS_un (body := m_Order___init___b1 (n : Int)) (by
    intro p hp
    obtain ⟨a, b, ha, hb, rfl⟩ := g.rg p hp
    unfold m_Order___init___b1
    simp only [Option.bind_eq_bind, bs]
    rw [forS_un]
    · rfl
    · intro x hx
      unfold m_Order___init___b2
      have : (decide (x < 0) || decide ((n : Int) ≤ x)) = false := by
        rcases List.mem_cons.mp hx with rfl | hx
        · simp; omega
        · rcases List.mem_cons.mp hx with rfl | hx
          · simp; omega
          · cases hx
      rw [this]; rfl)]
  simp only [bs]
  rw [closure_le hn L.o g]
  simp only [bs]
  rw [first_ring_eq hn L.o]
  simp only [bs, Option.isSome_none, cond_false]
  rw [bounds_eq hn L.o L.j]
  simp only [bs]
  rw [first_lack_eq hn]
  simp only [bs, Option.isSome_none, cond_false]
  rw [turned_eq hn]
  simp only [bs]
  rw [bounds_eq hn L.o.op L.m]
  simp only [bs]
  rw [first_lack_eq hn]
  simp only [bs, Option.isSome_none, cond_false]
  rw [rngM0 (by omega)]
  simp only [bs]
  obtain ⟨h, hh⟩ := longest_some (le := le) hn h0
  rw [hh]
  simp only [bs]
  refine ⟨⟨tab2 n le, _, _, _, h⟩, congrArg some (Eq.refl _), ?_⟩
  exact ⟨Eq.refl _, Eq.refl _, Eq.refl _, Eq.refl _, hh⟩
end My

namespace My
open PySem L2 Sim PyProof.Rows
/-! ### the pot -/
theorem draw_eq (pot : List Int) {n : Nat} (h : 0 < n) : ∃ (v : Nat) (pot' : List Int), m__law_draw pot (n : Int) = some ((v : Int), pot') ∧ v < n := by
  unfold m__law_draw
  cases e : ((pot.length : Int) == 0) with
  | true => exact ⟨0, pot, rfl, h⟩
  | false =>
    have h0 : 0 < pot.length := by rw [beq_eq_false_iff_ne] at e; omega
    simp only [Option.bind_eq_bind, bs, cond_false]
    unfold popM
    rw [List.getElem?_eq_getElem (show pot.length - 1 < pot.length by omega)]
    simp only [Option.bind_eq_bind, bs]
    unfold modM
    rw [if_pos (by omega)]
    have h1 := Int.emod_nonneg (pot[pot.length - 1]) (show (n : Int) ≠ 0 by omega)
    have h2 := Int.emod_lt_of_pos (pot[pot.length - 1]) (show (0 : Int) < n by omega)
    refine ⟨(pot[pot.length - 1] % (n : Int)).toNat, pot.dropLast, ?_, by omega⟩
    simp only [bs]
    rw [show (((pot[pot.length - 1] % (n : Int)).toNat : Nat) : Int) = pot[pot.length - 1] % (n : Int) by omega]
theorem draw_lit (pot : List Int) (n : Nat) (h : 0 < n) {z : Int} (hz : z = (n : Int)) : ∃ (v : Nat) (pot' : List Int), m__law_draw pot z = some ((v : Int), pot') ∧ v < n := by
  subst hz; exact draw_eq pot h
theorem pot_b2 {k : Nat} {x : Int} {s : List Int × Int} (h1 : s.1.length ≤ k) (hk : k < 100000) : ∃ s', m__law_pot_b2 x s = some s' ∧ s'.1.length ≤ k + 1 := by
  obtain ⟨p, r⟩ := s
  unfold m__law_pot_b2
  simp only [Option.bind_eq_bind, bs]
  have hd : fdivM r 100 = some (r / 100) := by unfold fdivM; rw [if_pos (by decide)]
  have hm : modM r 100 = some (r % 100) := by unfold modM; rw [if_pos (by decide)]
  have ha : appM p (r % 100) = some (p ++ [r % 100]) := by unfold appM; rw [sz_t (show p.length < 100000 from Nat.lt_of_le_of_lt h1 hk)]; rfl
  rw [hd, hm]
  have h1 : p.length ≤ k := h1
  cases (decide ((0 : Int) < r) || x == 0) with
  | true =>
    simp only [cond_true, bs, ha]
    exact ⟨_, rfl, by simp; exact h1⟩
  | false =>
    simp only [cond_false, bs]
    exact ⟨_, rfl, by simp; omega⟩
theorem pot_b1 {ns : List Int} {i k : Nat} {s : List Int} (hi : i < ns.length) (hi' : i < 63) (h1 : s.length ≤ k) (hk : k + 60 < 100000) : ∃ s', m__law_pot_b1 ns (i : Int) s = some s' ∧ s'.length ≤ k + 60 := by
  unfold m__law_pot_b1
  rw [atI_nat hi]
  simp only [Option.bind_eq_bind, bs]
  generalize hr : (if ns[i] < 0 then -ns[i] else ns[i]) = r
  have hr0 : 0 ≤ r := by rw [← hr]; split <;> omega
  have hp : powM 10 18 = some 1000000000000000000 := by decide
  rw [hp]
  simp only [bs]
  have loop : ∀ (m : Nat) (r : Int), m ≤ 60 → ∃ s', ((rngM 0 (m : Int)).bind fun xs1671 => (forS m__law_pot_b2 xs1671 (s, r)).bind fun s1676 => some s1676.1) = some s' ∧ s'.length ≤ k + 60 := by
    intro m r hm
    rw [rngM0 (by omega)]
    simp only [bs]
    obtain ⟨t, e, ht⟩ := forS_keep (body := m__law_pot_b2) (xs := tab m fun i => (i : Int)) (k := k) (I := fun j (s : List Int × Int) => s.1.length ≤ j) (s := (s, r)) h1 (by
      intro x _ j s hj hj' hs
      rw [tab_len] at hj'
      exact pot_b2 hs (by omega))
    rw [e]
    rw [tab_len] at ht
    exact ⟨_, rfl, by omega⟩
  cases e : decide (r < 1000000000000000000) with
  | false =>
    simp only [cond_false, bs]
    obtain ⟨s', e2, h2⟩ := loop 60 r (by omega)
    exact ⟨s', e2, h2⟩
  | true =>
    have hr1 : r < 1000000000000000000 := of_decide_eq_true e
    simp only [cond_true, bs]
    have k1 : mulM 2 r = some (2 * r) := by unfold mulM; rw [if_pos (by omega)]
    have k2 : mulM 2 (i : Int) = some (2 * (i : Int)) := by unfold mulM; rw [if_pos (by omega)]
    have k3 : ∀ z, mulM z (48271 + 2 * (i : Int)) = some (z * (48271 + 2 * (i : Int))) := fun z => by unfold mulM; rw [if_pos (by omega)]
    rw [k1, k2]
    simp only [bs]
    rw [k3]
    simp only [bs]
    have k4 : ∀ z, modM z 2147483647 = some (z % 2147483647) := fun z => by unfold modM; rw [if_pos (by decide)]
    have k5 : ∀ z, modM z 2147483629 = some (z % 2147483629) := fun z => by unfold modM; rw [if_pos (by decide)]
    rw [k4]
    simp only [bs]
    generalize hq : ((2 * r + if decide (ns[i] < 0) = true then (1 : Int) else 0) * (48271 + 2 * (i : Int))) % 2147483647 = q
    have q0 : 0 ≤ q := by rw [← hq]; exact Int.emod_nonneg _ (by decide)
    have q1 : q < 2147483647 := by rw [← hq]; exact Int.emod_lt_of_pos _ (by decide)
    have k6 : mulM q q = some (q * q) := by unfold mulM; rw [if_pos (by omega)]
    have k7 : mulM q (i : Int) = some (q * (i : Int)) := by unfold mulM; rw [if_pos (by omega)]
    rw [k6, k7]
    simp only [bs]
    rw [k5]
    simp only [bs]
    obtain ⟨s', e2, h2⟩ := loop 4 ((q * q + q * (i : Int)) % 2147483629) (by omega)
    exact ⟨s', e2, h2⟩
theorem pot_eq (ns : List Int) : ∃ p, m__law_pot ns = some p := by
  unfold m__law_pot
  simp only [Option.bind_eq_bind, bs]
  have hn : ∃ n : Nat, (if (63 : Int) < (ns.length : Int) then (63 : Int) else (ns.length : Int)) = (n : Int) ∧ n ≤ 63 ∧ n ≤ ns.length := by
    split
    · exact ⟨63, rfl, by omega, by omega⟩
    · exact ⟨ns.length, rfl, by omega, by omega⟩
  obtain ⟨n, e, h1, h2⟩ := hn
  rw [e, rngM0 (by omega)]
  simp only [bs]
  obtain ⟨t, e, ht⟩ := forS_keep (body := m__law_pot_b1 ns) (xs := tab n fun i => (i : Int)) (k := 0) (I := fun j (s : List Int) => s.length ≤ j * 60) (s := []) (by simp) (by
    intro x hx j s hj hj' hs
    rw [tab_len] at hj'
    obtain ⟨i, hi, rfl⟩ := tab_mem.mp hx
    obtain ⟨s', e1, h1⟩ := pot_b1 (ns := ns) (i := i) (k := j * 60) (s := s) (by omega) (by omega) hs (by omega)
    exact ⟨s', e1, by omega⟩)
  rw [e]
  exact ⟨_, rfl⟩

end My

namespace My
theorem ctr {α : Type} {a b : α} : (bif true then a else b) = a := Eq.trans (Eq.refl _) (Eq.refl _)
theorem cfa {α : Type} {a b : α} : (bif false then a else b) = b := Eq.trans (Eq.refl _) (Eq.refl _)
end My

namespace My
open PySem L2 Sim PyProof.Rows
/-! ### names -/
theorem addS_ok {x y : Str} (h : x.length + y.length < 100000) : addS x y = some (x ++ y) := by unfold addS; rw [decide_eq_true h]; rfl
theorem len1 (c : Nat) : (⟨#[c]⟩ : Str).length = 1 := rfl
theorem mulS_ok (c : Nat) {v : Nat} (h : v < 4) : ∃ z, mulS ⟨#[c]⟩ (v : Int) = some z ∧ z.length ≤ 3 := by
  have hc : decide ((v : Int) < 100 ∧ -100 < (v : Int) ∧ (⟨#[c]⟩ : Str).length < 1000) = true := by
    rw [len1]; exact decide_eq_true ⟨by omega, by omega, by omega⟩
  unfold mulS
  rw [hc]
  refine ⟨_, rfl, ?_⟩
  rcases v with _ | _ | _ | _ | v
  · show 0 ≤ 3
    omega
  · show 1 ≤ 3
    omega
  · show 2 ≤ 3
    omega
  · show 3 ≤ 3
    omega
  · omega
theorem sgl : ("abcdefghijklmnopqrstuvwxyzABCDEFGHIJKLMNOPQRSTUVWXYZ0123456789" : Str).cps.toList.length = 62 := by decide +kernel
theorem ixS_ok {v : Nat} (h : v < 62) : ∃ c, ixS ("abcdefghijklmnopqrstuvwxyzABCDEFGHIJKLMNOPQRSTUVWXYZ0123456789" : Str) (v : Int) = some ⟨#[c]⟩ := by
  unfold ixS
  have e : ("abcdefghijklmnopqrstuvwxyzABCDEFGHIJKLMNOPQRSTUVWXYZ0123456789" : Str).length = 62 := by
    rw [← sgl]; rfl
  rw [e, decide_eq_true (by omega), ctr, atI_nat (by rw [sgl]; exact h)]
  exact ⟨_, rfl⟩
theorem any_mem {s : List Str} {z : Str} : (s.any fun y => y == z) = decide (z ∈ s) := by
  by_cases h : z ∈ s
  · rw [decide_eq_true h, List.any_eq_true]
    exact ⟨z, h, by simp⟩
  · rw [decide_eq_false h, List.any_eq_false]
    intro y hy
    simp
    rintro rfl
    exact h hy
/-- short, or with an x at its end -/
def Pr (z : Str) : Prop := z.length ≤ 4 ∨ z.cps.toList.getLast? = some 120
/-- what is known of a name behind j tries -/
def Nm (ns : List Str) (j : Nat) (z : Str) : Prop := Pr z ∧ z.length ≤ 10 + j ∧ (z ∉ ns ∨ ∃ l : List Str, l.Nodup ∧ l.length = j ∧ ∀ y ∈ l, y ∈ ns ∧ y.length < z.length)
theorem names_b2 {s : List Str × List Int} {x : Int} {j : Nat} {z : Str} (hj : j < 1000) (h : Nm s.1 j z) : ∃ z', m__law_names_b2 s x z = some z' ∧ Nm s.1 (j + 1) z' := by
  unfold m__law_names_b2
  simp only [Option.bind_eq_bind, bs]
  rw [any_mem]
  obtain ⟨h0, h1, h2⟩ := h
  by_cases hz : z ∈ s.1
  · have hx : ("x" : Str).length = 1 := rfl
    rw [decide_eq_true hz, ctr, addS_ok (by rw [hx]; omega)]
    simp only [bs]
    have hl : (z ++ ("x" : Str)).length = z.length + 1 := by rw [PySem.Str.length_append, hx]
    refine ⟨_, rfl, .inr (show (z.cps ++ #[120]).toList.getLast? = some 120 by simp), by rw [hl]; omega, .inr ?_⟩
    rcases h2 with h2 | ⟨l, l1, l2, l3⟩
    · exact absurd hz h2
    · refine ⟨z :: l, List.nodup_cons.mpr ⟨fun hm => absurd (l3 z hm).2 (Nat.lt_irrefl _), l1⟩, by rw [List.length_cons, l2], fun y hy => ?_⟩
      rw [hl]
      rcases List.mem_cons.mp hy with rfl | hy
      · exact ⟨hz, by omega⟩
      · exact ⟨(l3 y hy).1, by have := (l3 y hy).2; omega⟩
  · rw [decide_eq_false hz, cfa]
    exact ⟨_, rfl, h0, by omega, .inl hz⟩
theorem names_eqL (pot : List Int) {many : Nat} (hm : many ≤ 100) : ∃ ns pot', m__law_names pot (many : Int) = some (ns, pot') ∧ ns.Nodup ∧ ns.length = many ∧ ∀ y ∈ ns, Pr y ∧ y.length ≤ 200 := by
  unfold m__law_names
  simp only [Option.bind_eq_bind, bs]
  rw [rngM0 (by omega)]
  simp only [bs]
  suffices h : ∀ (k i : Nat) (s : List Str × List Int), i + k = many → s.1.Nodup → s.1.length = i → (∀ y ∈ s.1, Pr y ∧ y.length ≤ 200) → ∃ s', forS (m__law_names_b1 ("abcdefghijklmnopqrstuvwxyzABCDEFGHIJKLMNOPQRSTUVWXYZ0123456789" : Str)) ((List.range' i k).map fun i : Nat => (i : Int)) s = some s' ∧ s'.1.Nodup ∧ s'.1.length = many ∧ ∀ y ∈ s'.1, Pr y ∧ y.length ≤ 200 by
    obtain ⟨s', e, h1, h2⟩ := h many 0 ([], pot) (by omega) List.nodup_nil rfl (fun y hy => (nomatch hy))
    have e' : forS (m__law_names_b1 ("abcdefghijklmnopqrstuvwxyzABCDEFGHIJKLMNOPQRSTUVWXYZ0123456789" : Str)) (tab many fun i => (i : Int)) ([], pot) = some s' := by
      unfold tab
      rw [List.range_eq_range']
      exact e
    rw [e']
    exact ⟨_, _, rfl, h1, h2⟩
  intro k
  induction k with
  | zero => intro i s hi h1 h2 h0; exact ⟨s, rfl, h1, by omega, h0⟩
  | succ k ih =>
    intro i s hi h1 h2 h0
    obtain ⟨ns, p⟩ := s
    replace h0 : ∀ y ∈ ns, Pr y ∧ y.length ≤ 200 := h0
    replace h1 : ns.Nodup := h1
    replace h2 : ns.length = i := h2
    show ∃ s', (m__law_names_b1 _ (i : Int) (ns, p) >>= forS (m__law_names_b1 _) ((List.range' (i + 1) k).map fun i : Nat => (i : Int))) = some s' ∧ _
    have step : ∃ s', m__law_names_b1 ("abcdefghijklmnopqrstuvwxyzABCDEFGHIJKLMNOPQRSTUVWXYZ0123456789" : Str) (i : Int) (ns, p) = some s' ∧ s'.1.Nodup ∧ s'.1.length = i + 1 ∧ ∀ y ∈ s'.1, Pr y ∧ y.length ≤ 200 := by
      unfold m__law_names_b1
      simp only [Option.bind_eq_bind, bs]
      obtain ⟨a, p1, e, ha⟩ := draw_lit p 62 (by decide) (z := 62) rfl
      rw [e]
      simp only [bs]
      obtain ⟨c, e⟩ := ixS_ok ha
      rw [e]
      simp only [bs]
      obtain ⟨b, p2, e, hb⟩ := draw_lit p1 4 (by decide) (z := 4) rfl
      rw [e]
      simp only [bs]
      obtain ⟨z, e, hz⟩ := mulS_ok c hb
      rw [e]
      simp only [bs]
      obtain ⟨a', p3, e, ha'⟩ := draw_lit p2 62 (by decide) (z := 62) rfl
      rw [e]
      simp only [bs]
      obtain ⟨c', e⟩ := ixS_ok ha'
      rw [e]
      simp only [bs]
      rw [addS_ok (by rw [len1]; omega)]
      simp only [bs]
      rw [rngM0 (by omega)]
      simp only [bs]
      obtain ⟨z', e, h30, h3, h4⟩ := forS_keep (body := m__law_names_b2 (ns, p)) (xs := tab i fun i => (i : Int)) (k := 0) (I := Nm ns) (s := z ++ ⟨#[c']⟩) ⟨.inl (by rw [PySem.Str.length_append, len1]; omega), by rw [PySem.Str.length_append, len1]; omega, .inr ⟨[], List.nodup_nil, rfl, fun y hy => by cases hy⟩⟩ (fun x _ j s _ hj hs => names_b2 (s := (ns, p)) (by rw [tab_len] at hj; omega) hs)
      rw [e]
      simp only [bs]
      have h5 : z' ∉ ns := by
        rcases h4 with h4 | ⟨l, l1, l2, l3⟩
        · exact h4
        · intro hz'
          have := lsub (l := z' :: l) (l2 := ns) (List.nodup_cons.mpr ⟨fun hm => absurd (l3 z' hm).2 (Nat.lt_irrefl _), l1⟩) (fun y hy => by
            rcases List.mem_cons.mp hy with rfl | hy
            · exact hz'
            · exact (l3 y hy).1)
          rw [List.length_cons, l2, tab_len, h2] at this
          omega
      unfold appM
      rw [sz_t (by omega)]
      refine ⟨_, rfl, ?_, by simp [h2], fun y hy => ?_⟩
      · show (ns ++ [z']).Nodup
        rw [List.nodup_append]
        exact ⟨h1, by simp, fun x hx y hy => by
          rw [List.mem_singleton] at hy
          subst hy
          exact fun e => h5 (e ▸ hx)⟩
      · rcases List.mem_append.mp hy with hy | hy
        · exact h0 y hy
        · rw [List.mem_singleton.mp hy]
          exact ⟨h30, by rw [tab_len] at h3; omega⟩
    obtain ⟨s1, e, n1, n2, n3⟩ := step
    rw [e]
    exact ih (i + 1) s1 (by omega) n1 n2 n3
theorem names_eq (pot : List Int) {many : Nat} (hm : many ≤ 100) : ∃ ns pot', m__law_names pot (many : Int) = some (ns, pot') ∧ ns.Nodup ∧ ns.length = many := by
  obtain ⟨ns, p, e, h1, h2, _⟩ := names_eqL pot hm
  exact ⟨ns, p, e, h1, h2⟩
/-! ### tables -/
section
variable {α : Type}
theorem putMM_ok {d : List (Str × α)} {k : Str} {x : α} (h : d.length < 100000) : putMM d k x = some (putM d k x) := by unfold putMM; rw [decide_eq_true h]; rfl
end
end My

namespace My
open PySem L2 Sim PyProof.Rows
/-! ### the pot -/
/-! ### the masks -/
def nts (ms : List Nat) : List Int := ms.map (fun k : Nat => (k : Int))
theorem bitAnd_nat (x y : Nat) : Builtin.bitAnd (x : Int) (y : Int) = ((x &&& y : Nat) : Int) := by
  rw [bitAnd_pp (by omega) (by omega)]; simp
theorem mem_nts {x : Nat} {ms : List Nat} : (x : Int) ∈ nts ms ↔ x ∈ ms := by
  unfold nts
  rw [List.mem_map]
  constructor
  · rintro ⟨k, hk, e⟩
    have : k = x := by omega
    subst this; exact hk
  · intro h; exact ⟨x, h, rfl⟩
theorem nts_len {ms : List Nat} : (nts ms).length = ms.length := by simp [nts]
theorem len_sub {α : Type} [BEq α] [LawfulBEq α] : ∀ {l l2 : List α}, l.Nodup → (∀ x ∈ l, x ∈ l2) → l.length ≤ l2.length
  | [], _, _, _ => Nat.zero_le _
  | x :: xs, l2, h, hs => by
    have hx := hs x (List.mem_cons_self ..)
    obtain ⟨h1, h2⟩ := List.nodup_cons.mp h
    have := len_sub (l := xs) (l2 := l2.erase x) h2 fun y hy => by
      have hne : y ≠ x := fun e => h1 (e ▸ hy)
      exact (List.mem_erase_of_ne hne).mpr (hs y (List.mem_cons_of_mem _ hy))
    rw [List.length_erase_of_mem hx] at this
    have := List.length_pos_of_mem hx
    simp only [List.length_cons]
    omega
theorem nodup_len {ms : List Nat} (h : ms.Nodup) (hl : ∀ x ∈ ms, x < 32) : ms.length ≤ 32 := by
  have := len_sub h (l2 := List.range 32) (fun x hx => List.mem_range.mpr (hl x hx))
  simpa using this
/-- all & v added -/
def addAll (v : Nat) : List Nat → List Nat → List Nat
  | [], s => s
  | x :: xs, s => addAll v xs (if x &&& v ∈ s then s else s ++ [x &&& v])
theorem addAll_mem {v : Nat} : ∀ {xs s : List Nat} {z : Nat}, z ∈ addAll v xs s ↔ z ∈ s ∨ ∃ x ∈ xs, x &&& v = z
  | [], s, z => by simp [addAll]
  | x :: xs, s, z => by
    unfold addAll
    rw [addAll_mem]
    split
    · rename_i h
      constructor
      · rintro (h1 | ⟨y, hy, rfl⟩)
        · exact Or.inl h1
        · exact Or.inr ⟨y, List.mem_cons_of_mem _ hy, rfl⟩
      · rintro (h1 | ⟨y, hy, rfl⟩)
        · exact Or.inl h1
        · rcases List.mem_cons.mp hy with rfl | hy
          · exact Or.inl h
          · exact Or.inr ⟨y, hy, rfl⟩
    · constructor
      · rintro (h1 | ⟨y, hy, rfl⟩)
        · rcases List.mem_append.mp h1 with h1 | h1
          · exact Or.inl h1
          · rw [List.mem_singleton] at h1
            exact Or.inr ⟨x, List.mem_cons_self .., h1.symm⟩
        · exact Or.inr ⟨y, List.mem_cons_of_mem _ hy, rfl⟩
      · rintro (h1 | ⟨y, hy, rfl⟩)
        · exact Or.inl (List.mem_append_left _ h1)
        · rcases List.mem_cons.mp hy with rfl | hy
          · exact Or.inl (List.mem_append_right _ (List.mem_singleton.mpr rfl))
          · exact Or.inr ⟨y, hy, rfl⟩
theorem addAll_nd {v : Nat} : ∀ {xs s : List Nat}, s.Nodup → (addAll v xs s).Nodup
  | [], s, h => h
  | x :: xs, s, h => by
    unfold addAll
    split
    · exact addAll_nd h
    · rename_i hx
      exact addAll_nd (by
        rw [List.nodup_append]
        refine ⟨h, by simp, fun a ha b hb e => ?_⟩
        rw [List.mem_singleton] at hb
        subst hb; subst e
        exact hx ha)
theorem addAll_lt {v : Nat} {xs s : List Nat} (h : ∀ x ∈ s, x < 32) (hv : v < 32) : ∀ x ∈ addAll v xs s, x < 32 := by
  intro z hz
  rcases addAll_mem.mp hz with h1 | ⟨x, _, rfl⟩
  · exact h z h1
  · exact Nat.lt_of_le_of_lt Nat.and_le_right hv
theorem addAll_masks {v : Nat} {ms : List Nat} (h : Masks ms) (hv : v < 32) : Masks (addAll v ms ms) := by
  refine ⟨addAll_nd h.nd, addAll_lt h.lt hv, addAll_mem.mpr (Or.inl h.top), fun x hx y hy => ?_⟩
  refine addAll_mem.mpr ?_
  rcases addAll_mem.mp hx with h1 | ⟨a, ha, rfl⟩ <;> rcases addAll_mem.mp hy with h2 | ⟨b, hb, rfl⟩
  · exact Or.inl (h.cl _ h1 _ h2)
  · exact Or.inr ⟨x &&& b, h.cl _ h1 _ hb, Nat.and_assoc ..⟩
  · exact Or.inr ⟨a &&& y, h.cl _ ha _ h2, by rw [Nat.and_assoc, Nat.and_assoc, Nat.and_comm y v]⟩
  · refine Or.inr ⟨a &&& b, h.cl _ ha _ hb, ?_⟩
    rw [Nat.and_assoc, Nat.and_assoc, ← Nat.and_assoc v b v, Nat.and_comm v b, Nat.and_assoc b v v, Nat.and_self]
theorem masks_b2 {v : Nat} {pp : List Int} (hv : v < 32) : ∀ {xs s : List Nat}, s.Nodup → (∀ x ∈ s, x < 32) → forS (m__law_masks_b2 ((v : Int), pp)) (nts xs) (nts s) = some (nts (addAll v xs s))
  | [], s, _, _ => rfl
  | x :: xs, s, h, hl => by
    have ih : ∀ {s : List Nat}, s.Nodup → (∀ x ∈ s, x < 32) → forS (m__law_masks_b2 ((v : Int), pp)) (nts xs) (nts s) = some (nts (addAll v xs s)) := fun h1 h2 => masks_b2 hv h1 h2
    show (m__law_masks_b2 ((v : Int), pp) (x : Int) (nts s) >>= forS (m__law_masks_b2 ((v : Int), pp)) (nts xs)) = _
    have h1 := addAll_nd (v := v) (xs := [x]) h
    have h2 := addAll_lt (v := v) (xs := [x]) hl hv
    unfold addAll at h1 h2
    unfold addAll at h1 h2
    unfold addAll
    have e : m__law_masks_b2 ((v : Int), pp) (x : Int) (nts s) = some (nts (if x &&& v ∈ s then s else s ++ [x &&& v])) := by
      unfold m__law_masks_b2
      simp only [Option.bind_eq_bind, bs, bitAnd_nat]
      have hm : ((nts s).any fun z => z == ((x &&& v : Nat) : Int)) = decide (x &&& v ∈ s) := by
        cases q : ((nts s).any fun z => z == ((x &&& v : Nat) : Int)) with
        | true =>
          rw [List.any_eq_true] at q
          obtain ⟨z, hz, e⟩ := q
          rw [beq_iff_eq] at e; subst e
          simp [mem_nts.mp hz]
        | false =>
          have : x &&& v ∉ s := fun hx => by
            rw [List.any_eq_false] at q
            exact q _ (mem_nts.mpr hx) (by simp)
          simp [this]
      rw [hm]
      by_cases q : x &&& v ∈ s
      · simp [q]
      · have := nodup_len h hl
        simp only [q, decide_false, Bool.not_false, cond_true, if_false]
        unfold appM
        rw [sz_t (by rw [nts_len]; omega)]
        simp [nts]
    rw [e]
    exact ih h1 h2
structure MSt (most : Nat) (s : List Int × List Int) : Prop where
  ex : ∃ ms, Masks ms ∧ s.1 = nts ms ∧ ms.length ≤ most
theorem masks_b1 {most : Nat} {x : Int} {s : List Int × List Int} (h : MSt most s) : ∃ s', m__law_masks_b1 (most : Int) x s = some s' ∧ MSt most s' := by
  obtain ⟨m, p⟩ := s
  obtain ⟨ms, h1, rfl, h2⟩ := h.ex
  unfold m__law_masks_b1
  simp only [Option.bind_eq_bind, bs]
  obtain ⟨v, pot', e, hv⟩ := draw_lit p 32 (by decide) (z := 32) rfl
  rw [e]
  simp only [bs]
  rw [masks_b2 hv h1.nd h1.lt]
  simp only [bs, nts_len]
  by_cases q : (addAll v ms ms).length ≤ most
  · have : decide (((addAll v ms ms).length : Int) ≤ (most : Int)) = true := by simp; exact q
    rw [this]
    exact ⟨_, rfl, ⟨_, addAll_masks h1 hv, rfl, q⟩⟩
  · have : decide (((addAll v ms ms).length : Int) ≤ (most : Int)) = false := by simp; omega
    rw [this]
    exact ⟨_, rfl, ⟨_, h1, rfl, h2⟩⟩
theorem masks_b3 {xs : List Int} {k : Nat} {x : Int} {s : List Int × (List Int × List Int)} (hk : k < xs.length) (hl : xs.length < 100) (h : (s.1 ++ s.2.2).Perm xs ∧ s.1.length = k) :
    ∃ s', m__law_masks_b3 x s = some s' ∧ (s'.1 ++ s'.2.2).Perm xs ∧ s'.1.length = k + 1 := by
  obtain ⟨a, p, r⟩ := s
  obtain ⟨h1, h2⟩ := h
  have h1 : (a ++ r).Perm xs := h1
  have h2 : a.length = k := h2
  have hr := h1.length_eq
  rw [List.length_append] at hr
  unfold m__law_masks_b3
  simp only [Option.bind_eq_bind, bs]
  obtain ⟨v, pot', e, hv⟩ := draw_eq p (n := r.length) (by omega)
  rw [e]
  simp only [bs]
  rw [popAt_eq hv (by omega)]
  simp only [bs]
  unfold appM
  rw [sz_t (by omega)]
  refine ⟨_, rfl, ?_, by simp [h2]⟩
  show ((a ++ [r[v]]) ++ r.eraseIdx v).Perm xs
  refine (List.Perm.trans ?_ h1)
  rw [List.append_assoc]
  exact List.Perm.append_left a (perm_erase hv).symm
theorem Masks.perm {ms ms' : List Nat} (h : Masks ms) (p : ms'.Perm ms) : Masks ms' :=
  ⟨p.nodup_iff.mpr h.nd, fun x hx => h.lt x (p.mem_iff.mp hx), p.mem_iff.mpr h.top, fun x hx y hy => p.mem_iff.mpr (h.cl x (p.mem_iff.mp hx) y (p.mem_iff.mp hy))⟩
theorem perm_nts {xs : List Int} {ms : List Nat} (p : xs.Perm (nts ms)) : ∃ ms', xs = nts ms' ∧ ms'.Perm ms := by
  refine ⟨xs.map Int.toNat, ?_, ?_⟩
  · unfold nts
    rw [List.map_map]
    have : ∀ x ∈ xs, (((fun k : Nat => (k : Int)) ∘ Int.toNat) x) = x := fun x hx => by
      obtain ⟨k, _, rfl⟩ := List.mem_map.mp (p.mem_iff.mp hx)
      simp
    rw [List.map_congr_left this]
    simp
  · have := p.map Int.toNat
    unfold nts at this
    rw [List.map_map] at this
    have e : (Int.toNat ∘ fun k : Nat => (k : Int)) = id := by funext k; simp
    rw [e, List.map_id] at this
    exact this
theorem masks_eq (pot : List Int) {most : Nat} (hm : 1 ≤ most) : ∃ ms pot', m__law_masks pot (most : Int) = some (nts ms, pot') ∧ Masks ms ∧ ms.length ≤ most := by
  unfold m__law_masks
  simp only [Option.bind_eq_bind, bs]
  obtain ⟨v, p1, e, hv⟩ := draw_lit pot 6 (by decide) (z := 6) rfl
  rw [e]
  simp only [bs]
  have e2 : modM ((v : Int) + 1) 6 = some (((v + 1) % 6 : Nat) : Int) := by
    unfold modM
    rw [if_pos (by decide)]
    simp
  rw [e2]
  simp only [bs]
  rw [rngM0 (by omega)]
  simp only [bs]
  obtain ⟨s, e3, h3⟩ := forS_keep (body := m__law_masks_b1 (most : Int)) (xs := tab ((v + 1) % 6) fun i => (i : Int)) (k := 0) (I := fun _ s => MSt most s) (s := ([31], p1)) ⟨[31], ⟨by simp, by simp, by simp, by simp⟩, rfl, hm⟩ (fun x _ j s _ _ hs => masks_b1 hs)
  rw [e3]
  simp only [bs]
  obtain ⟨m, p2⟩ := s
  obtain ⟨ms, h4, rfl, h5⟩ := h3.ex
  have h6 := nodup_len h4.nd h4.lt
  rw [nts_len, if_pos (by omega)]
  simp only [bs]
  have hp := srtI_perm (nts ms)
  have hl := hp.length_eq
  rw [nts_len] at hl
  rw [hl, rngM0 (by omega)]
  simp only [bs]
  obtain ⟨s, e7, h7⟩ := forS_keep (body := m__law_masks_b3) (xs := tab ms.length fun i => (i : Int)) (k := 0) (I := fun j (s : List Int × (List Int × List Int)) => (s.1 ++ s.2.2).Perm (srtI (nts ms)) ∧ s.1.length = j) (s := ([], (p2, srtI (nts ms)))) ⟨by simp, rfl⟩ (by
    intro x _ j s _ hj hs
    rw [tab_len] at hj
    exact masks_b3 (by omega) (by omega) hs)
  rw [e7]
  simp only [bs]
  obtain ⟨a, p3, r⟩ := s
  obtain ⟨h8, h9⟩ := h7
  have h8 : (a ++ r).Perm (srtI (nts ms)) := h8
  have h9 : a.length = 0 + (tab ms.length fun i => (i : Int)).length := h9
  rw [tab_len] at h9
  have h10 := h8.length_eq
  rw [List.length_append] at h10
  have : r = [] := List.length_eq_zero_iff.mp (by omega)
  subst this
  rw [List.append_nil] at h8
  obtain ⟨ms', rfl, h11⟩ := perm_nts (h8.trans hp)
  exact ⟨ms', p3, rfl, h4.perm h11, by rw [h11.length_eq]; exact h5⟩

/-! ### the order of the masks -/
def mle (ms : List Nat) (a b : Nat) : Bool := (ms.getD a 0 &&& ms.getD b 0) == ms.getD a 0
def mmeet (ms : List Nat) (a b : Nat) : Nat := ms.idxOf (ms.getD a 0 &&& ms.getD b 0)
def andAll : List Nat → Nat
  | [] => 31
  | x :: xs => x &&& andAll xs
def mjoin (ms : List Nat) (a b : Nat) : Nat := ms.idxOf (andAll (ms.filter fun z => (ms.getD a 0 &&& z == ms.getD a 0) && (ms.getD b 0 &&& z == ms.getD b 0)))
theorem getD_mem {ms : List Nat} {a : Nat} (h : a < ms.length) : ms.getD a 0 ∈ ms := by
  rw [List.getD_eq_getElem?_getD, List.getElem?_eq_getElem h]; exact List.getElem_mem h
theorem getD_inj {ms : List Nat} (hd : ms.Nodup) {a b : Nat} (ha : a < ms.length) (hb : b < ms.length) (h : ms.getD a 0 = ms.getD b 0) : a = b := by
  rw [List.getD_eq_getElem?_getD, List.getD_eq_getElem?_getD, List.getElem?_eq_getElem ha, List.getElem?_eq_getElem hb] at h
  exact (List.getElem_inj hd).mp h
theorem getD_idx {ms : List Nat} {x : Nat} (h : x ∈ ms) : ms.idxOf x < ms.length ∧ ms.getD (ms.idxOf x) 0 = x := by
  have := List.idxOf_lt_length_of_mem h
  refine ⟨this, ?_⟩
  rw [List.getD_eq_getElem?_getD, List.getElem?_eq_getElem this]
  exact List.getElem_idxOf this
theorem andAll_mem {ms : List Nat} (h : Masks ms) : ∀ {xs : List Nat}, (∀ x ∈ xs, x ∈ ms) → andAll xs ∈ ms
  | [], _ => h.top
  | x :: xs, hx => h.cl _ (hx x (List.mem_cons_self ..)) _ (andAll_mem h fun y hy => hx y (List.mem_cons_of_mem _ hy))
theorem andAll_le {xs : List Nat} : ∀ {x : Nat}, x ∈ xs → andAll xs &&& x = andAll xs := by
  induction xs with
  | nil => intro x h; cases h
  | cons y ys ih =>
    intro x h
    unfold andAll
    rcases List.mem_cons.mp h with rfl | h
    · rw [Nat.and_comm x (andAll ys), Nat.and_assoc, Nat.and_self]
    · rw [Nat.and_assoc, ih h]
theorem le_andAll {a : Nat} (ha : a < 32) : ∀ {xs : List Nat}, (∀ x ∈ xs, a &&& x = a) → a &&& andAll xs = a
  | [], _ => by
    have : a % 2 ^ 5 = a := Nat.mod_eq_of_lt ha
    rw [← Nat.and_two_pow_sub_one_eq_mod] at this
    exact this
  | x :: xs, h => by
    show a &&& (x &&& andAll xs) = a
    rw [← Nat.and_assoc, h x (List.mem_cons_self ..), le_andAll ha fun y hy => h y (List.mem_cons_of_mem _ hy)]
theorem mOrd {ms : List Nat} (h : Masks ms) : Ord ms.length (mle ms) where
  rf a _ := by unfold mle; rw [Nat.and_self]; simp
  an a b ha hb h1 h2 := by
    unfold mle at h1 h2
    rw [beq_iff_eq] at h1 h2
    rw [Nat.and_comm] at h2
    exact getD_inj h.nd ha hb (h1.symm.trans h2)
  tr a b c ha hb hc h1 h2 := by
    unfold mle at h1 h2 ⊢
    rw [beq_iff_eq] at h1 h2 ⊢
    rw [← h1, Nat.and_assoc, h2]
theorem mMeet {ms : List Nat} (h : Masks ms) : Lub ms.length (fun a b => mle ms b a) (mmeet ms) where
  lt a b ha hb := (getD_idx (h.cl _ (getD_mem ha) _ (getD_mem hb))).1
  l a b ha hb := by
    unfold mle mmeet
    rw [(getD_idx (h.cl _ (getD_mem ha) _ (getD_mem hb))).2, beq_iff_eq, Nat.and_comm (ms.getD a 0), Nat.and_assoc, Nat.and_self]
  r a b ha hb := by
    unfold mle mmeet
    rw [(getD_idx (h.cl _ (getD_mem ha) _ (getD_mem hb))).2, beq_iff_eq, Nat.and_assoc, Nat.and_self]
  le a b c ha hb hc h1 h2 := by
    unfold mle mmeet at *
    rw [(getD_idx (h.cl _ (getD_mem ha) _ (getD_mem hb))).2]
    rw [beq_iff_eq] at *
    rw [← Nat.and_assoc, h1, h2]
theorem mJoin {ms : List Nat} (h : Masks ms) : Lub ms.length (mle ms) (mjoin ms) := by
  have hm : ∀ a b, andAll (ms.filter fun z => (ms.getD a 0 &&& z == ms.getD a 0) && (ms.getD b 0 &&& z == ms.getD b 0)) ∈ ms := fun a b => andAll_mem h fun x hx => (List.mem_filter.mp hx).1
  have hu : ∀ a b x, x ∈ (ms.filter fun z => (ms.getD a 0 &&& z == ms.getD a 0) && (ms.getD b 0 &&& z == ms.getD b 0)) ↔ x ∈ ms ∧ ms.getD a 0 &&& x = ms.getD a 0 ∧ ms.getD b 0 &&& x = ms.getD b 0 := fun a b x => by
    rw [List.mem_filter]; simp
  refine ⟨fun a b ha hb => (getD_idx (hm a b)).1, fun a b ha hb => ?_, fun a b ha hb => ?_, fun a b c ha hb hc h1 h2 => ?_⟩
  · unfold mle mjoin
    rw [(getD_idx (hm a b)).2, beq_iff_eq]
    exact le_andAll (h.lt _ (getD_mem ha)) fun x hx => ((hu a b x).mp hx).2.1
  · unfold mle mjoin
    rw [(getD_idx (hm a b)).2, beq_iff_eq]
    exact le_andAll (h.lt _ (getD_mem hb)) fun x hx => ((hu a b x).mp hx).2.2
  · unfold mle mjoin at *
    rw [(getD_idx (hm a b)).2]
    rw [beq_iff_eq] at *
    exact andAll_le ((hu a b _).mpr ⟨getD_mem hc, h1, h2⟩)
theorem mLat {ms : List Nat} (h : Masks ms) (hl : ms.length ≤ 12) : Lat ms.length (mle ms) (mjoin ms) (mmeet ms) := ⟨h.ne, hl, mOrd h, mJoin h, mMeet h⟩
theorem atI_nts {ms : List Nat} {a : Nat} (h : a < ms.length) : atI (nts ms) (a : Int) = some ((ms.getD a 0 : Nat) : Int) := by
  rw [atI_nat (by rw [nts_len]; exact h)]
  simp [nts, List.getD_eq_getElem?_getD, List.getElem?_eq_getElem h]
theorem under_eq {ms : List Nat} {a b : Nat} (ha : a < ms.length) (hb : b < ms.length) : m__law_under (nts ms) (a : Int) (b : Int) = some (mle ms a b) := by
  unfold m__law_under
  rw [atI_nts ha, atI_nts hb]
  simp only [Option.bind_eq_bind, bs, bitAnd_nat]
  unfold mle
  congr 1
  cases e : (ms.getD a 0 &&& ms.getD b 0 == ms.getD a 0) with
  | true => rw [beq_iff_eq] at e; rw [e]; simp
  | false => rw [beq_eq_false_iff_ne] at e ⊢; omega
end My

namespace My
open PySem L2 Sim PyProof.Rows
theorem forS_flat {α β γ : Type} {body : β → List γ → Option (List γ)} {a : α → β} {f : α → List γ} {B : Nat} : ∀ {xs : List α} {s : List γ}, (∀ x ∈ xs, ∀ s, s.length + (f x).length ≤ B → body (a x) s = some (s ++ f x)) → s.length + (xs.flatMap f).length ≤ B →
    forS body (xs.map a) s = some (s ++ xs.flatMap f)
  | [], s, _, _ => by simp [forS]
  | x :: xs, s, h, hB => by
    show (body (a x) s >>= forS body (xs.map a)) = _
    rw [List.flatMap_cons, List.length_append] at hB
    rw [h x (List.mem_cons_self ..) s (by omega)]
    show forS body (xs.map a) (s ++ f x) = _
    rw [forS_flat (fun y hy => h y (List.mem_cons_of_mem _ hy)) (by rw [List.length_append]; omega), List.flatMap_cons, List.append_assoc]
theorem flat_len {α γ : Type} {f : α → List γ} {k : Nat} : ∀ {xs : List α}, (∀ x ∈ xs, (f x).length ≤ k) → (xs.flatMap f).length ≤ xs.length * k
  | [], _ => by simp
  | x :: xs, h => by
    rw [List.flatMap_cons, List.length_append, List.length_cons, Nat.succ_mul]
    have := flat_len (fun y hy => h y (List.mem_cons_of_mem _ hy))
    have := h x (List.mem_cons_self ..)
    omega
theorem orF {b : Option Bool} : orO (some false) b = b := rfl
theorem idx_nts {ms : List Nat} (nd : ms.Nodup) {a : Nat} (ha : a < ms.length) : idxM (fun a b => a == b) (nts ms) ((ms.getD a 0 : Nat) : Int) = some (a : Int) := by
  unfold idxM
  have e : (nts ms).findIdx? (fun z => z == ((ms.getD a 0 : Nat) : Int)) = some a := by
    rw [List.findIdx?_eq_some_iff_getElem]
    refine ⟨by rw [nts_len]; exact ha, ?_, ?_⟩
    · simp [nts, List.getD_eq_getElem?_getD, List.getElem?_eq_getElem ha]
    · intro k hk
      have hk' : k < ms.length := by omega
      have : ms.getD k 0 ≠ ms.getD a 0 := fun z => by have := getD_inj nd hk' ha z; omega
      simp only [nts, List.getElem_map]
      rw [List.getD_eq_getElem?_getD, List.getElem?_eq_getElem hk', List.getD_eq_getElem?_getD, List.getElem?_eq_getElem ha] at this
      rw [List.getD_eq_getElem?_getD, List.getElem?_eq_getElem ha]
      simp only [Option.getD_some] at this ⊢
      simp; omega
  rw [e]; rfl
theorem minL_some : ∀ {xs : List Int}, xs ≠ [] → ∃ m, minL xs = some m
  | [], h => absurd rfl h
  | [x], _ => ⟨x, rfl⟩
  | x :: y :: ys, _ => by
    obtain ⟨k, hk⟩ := minL_some (xs := y :: ys) (by simp)
    unfold minL
    rw [hk]
    exact ⟨_, rfl⟩
theorem minL_of {xs : List Int} {m : Int} (hm : m ∈ xs) (h : ∀ y ∈ xs, m ≤ y) : minL xs = some m := by
  obtain ⟨k, hk⟩ := minL_some (List.ne_nil_of_mem hm)
  obtain ⟨h1, h2⟩ := minL_ok hk
  have := h2 m hm
  have := h k h1
  rw [hk]; congr 1; omega
end My

namespace My
open PySem L2 Sim PyProof.Rows
/-! ### all related pairs -/
def relp (ms : List Nat) : List (Int × Int) := (List.range ms.length).flatMap fun a => (List.range ms.length).flatMap fun b => if (!(a == b) && mle ms a b) = true then [((a : Int), (b : Int))] else []
theorem relp_mem {ms : List Nat} {p : Int × Int} : p ∈ relp ms ↔ ∃ a b, a < ms.length ∧ b < ms.length ∧ (!(a == b) && mle ms a b) = true ∧ p = ((a : Int), (b : Int)) := by
  unfold relp
  rw [List.mem_flatMap]
  constructor
  · rintro ⟨a, ha, h⟩
    obtain ⟨b, hb, h⟩ := List.mem_flatMap.mp h
    split at h
    · rename_i hc
      exact ⟨a, b, List.mem_range.mp ha, List.mem_range.mp hb, hc, List.mem_singleton.mp h⟩
    · cases h
  · rintro ⟨a, b, ha, hb, hc, rfl⟩
    refine ⟨a, List.mem_range.mpr ha, List.mem_flatMap.mpr ⟨b, List.mem_range.mpr hb, ?_⟩⟩
    rw [if_pos hc]
    exact List.mem_singleton.mpr rfl
theorem relp_len (ms : List Nat) : (relp ms).length ≤ ms.length * ms.length := by
  have := flat_len (f := fun a => (List.range ms.length).flatMap fun b => if (!(a == b) && mle ms a b) = true then [((a : Int), (b : Int))] else []) (k := ms.length) (xs := List.range ms.length) (fun a _ => by
    have := flat_len (f := fun b => if (!(a == b) && mle ms a b) = true then [((a : Int), (b : Int))] else []) (k := 1) (xs := List.range ms.length) (fun x _ => by split <;> simp)
    simpa using this)
  rw [List.length_range] at this
  exact this
theorem pairs_eq {ms : List Nat} (hl : ms.length ≤ 12) : m__law_pairs (nts ms) = some (relp ms) := by
  unfold m__law_pairs
  simp only [Option.bind_eq_bind, bs, nts_len]
  rw [rngM0 (by omega)]
  simp only [bs]
  have h2 : ms.length * ms.length ≤ 144 := Nat.mul_le_mul hl hl
  have h3 := relp_len ms
  have := forS_flat (body := m__law_pairs_b1 (nts ms)) (a := fun i : Nat => (i : Int)) (f := fun a => (List.range ms.length).flatMap fun b => if (!(a == b) && mle ms a b) = true then [((a : Int), (b : Int))] else []) (B := 144) (xs := List.range ms.length) (s := []) (by
    intro a ha s hs
    have ha := List.mem_range.mp ha
    unfold m__law_pairs_b1
    simp only [Option.bind_eq_bind, bs, nts_len]
    rw [rngM0 (by omega)]
    simp only [bs]
    have := forS_flat (body := m__law_pairs_b2 (a : Int) (nts ms)) (a := fun i : Nat => (i : Int)) (f := fun b => if (!(a == b) && mle ms a b) = true then [((a : Int), (b : Int))] else []) (B := 144) (xs := List.range ms.length) (s := s) (by
      intro b hb s hs
      have hb := List.mem_range.mp hb
      unfold m__law_pairs_b2
      rw [under_eq ha hb]
      have e0 : ((a : Int) == (b : Int)) = (a == b) := by
        cases e : (a == b) with
        | true => rw [beq_iff_eq] at e; rw [e]; simp
        | false => rw [beq_eq_false_iff_ne] at e ⊢; omega
      rw [e0]
      have e1 : andO (some (!(a == b))) (some (mle ms a b)) = some (!(a == b) && mle ms a b) := by cases (a == b) <;> rfl
      rw [e1]
      simp only [Option.bind_eq_bind, bs]
      cases e : (!(a == b) && mle ms a b) with
      | true =>
        simp only [cond_true, bs]
        unfold appM
        rw [sz_t (by omega)]
        simp
      | false => simp) hs
    show ((forS (m__law_pairs_b2 (a : Int) (nts ms)) (List.map (fun i : Nat => (i : Int)) (List.range ms.length)) s).bind some) = _
    rw [this]
    rfl) (by simp only [List.length_nil, Nat.zero_add]; exact Nat.le_trans h3 h2)
  show ((forS (m__law_pairs_b1 (nts ms)) (List.map (fun i : Nat => (i : Int)) (List.range ms.length)) []).bind some) = _
  rw [this]
  rfl
theorem relp_gens {ms : List Nat} (h : Masks ms) : Gens ms.length (mle ms) (relp ms) where
  rg p hp := by obtain ⟨a, b, ha, hb, _, e⟩ := relp_mem.mp hp; exact ⟨a, b, ha, hb, e⟩
  sd a b ha hb hp := by
    obtain ⟨c, d, _, _, hc, e⟩ := relp_mem.mp hp
    rw [Prod.mk.injEq] at e
    have h1 : a = c := by omega
    have h2 : b = d := by omega
    subst h1 h2
    simp only [Bool.and_eq_true] at hc
    exact hc.2
  gn S rf tr st a b ha hb hle := by
    by_cases e : a = b
    · subst e; exact rf a ha
    · exact st a b ha hb (relp_mem.mpr ⟨a, b, ha, hb, by simp [e, hle], rfl⟩)
end My

namespace My
open PySem L2 Sim PyProof.Rows
theorem require_eq {n : Nat} {le : Nat → Nat → Bool} {j m : Nat → Nat → Nat} {o : m_Order} (h : IsOrd n le j m o) {a b : Nat} (ha : a < n) (hb : b < n) : m_Order__require o (a : Int) (b : Int) = some () := by
  unfold m_Order__require
  simp only [Option.bind_eq_bind, Option.bind_some]
  rw [forS_un]
  · rfl
  · intro x hx
    unfold m_Order__require_b1
    rw [h.members, tab_len]
    have : (decide (x < 0) || decide ((n : Int) ≤ x)) = false := by
      rcases List.mem_cons.mp hx with rfl | hx
      · simp; omega
      · rcases List.mem_cons.mp hx with rfl | hx
        · simp; omega
        · cases hx
    rw [this]; rfl
theorem below_eq {n : Nat} {le : Nat → Nat → Bool} {j m : Nat → Nat → Nat} {o : m_Order} (h : IsOrd n le j m o) {a b : Nat} (ha : a < n) (hb : b < n) : m_Order_below o (a : Int) (b : Int) = some (le a b) := by
  unfold m_Order_below
  rw [require_eq h ha hb, h.above]
  have h1 := atI2 (R := le) ha hb
  rw [h1]
  rfl
end My

namespace My
open PySem L2 Sim PyProof.Rows
/-! ### heights -/
structure IsH (n : Nat) (le : Nat → Nat → Bool) (h : Nat → Nat) : Prop where
  up : ∀ a b, a < n → b < n → slt le a b = true → h a + 1 ≤ h b
  at_ : ∀ b, b < n → h b = 0 ∨ ∃ a, a < n ∧ slt le a b = true ∧ h b = h a + 1
  lt : ∀ b, b < n → h b < n
/-! ### relaxing along steps -/
def updN (f : Nat → Nat) (b v : Nat) : Nat → Nat := fun i => if i = b then v else f i
theorem Relax.step {n : Nat} {le : Nat → Nat → Bool} {h s0 : Nat → Nat} (H : IsH n le h) {done : Nat → Nat → Prop} {f : Nat → Nat} {a b v : Nat} (ha : a < n) (hb : b < n) (hs : slt le a b = true) (h1 : ∀ i, i < n → s0 i ≤ f i ∧ f i ≤ h i) (h2 : ∀ a b, b < n → done a b → s0 a + 1 ≤ f b)
    (hv : v = max (f b) (f a + 1)) : Relax n h s0 (fun x y => done x y ∨ (x = a ∧ y = b)) (tab n fun i => ((updN f b v i : Nat) : Int)) := by
  have hup := H.up a b ha hb hs
  have ha' := h1 a ha
  have hb' := h1 b hb
  refine ⟨updN f b v, rfl, fun i hi => ?_, fun x y hy hd => ?_⟩
  · unfold updN
    split
    · rename_i e; subst e; omega
    · exact h1 i hi
  · unfold updN
    rcases hd with hd | ⟨rfl, rfl⟩
    · have := h2 x y hy hd
      split
      · rename_i e; subst e; omega
      · exact this
    · rw [if_pos rfl]; omega
theorem Rnd.fin {n : Nat} {le : Nat → Nat → Bool} {h : Nat → Nat} (H : IsH n le h) {s : List Int} (R : Rnd n h n s) : s = tab n fun i => (h i : Int) := by
  obtain ⟨f, e, _, h2⟩ := R
  rw [e]
  exact tab_congr fun i hi => by rw [h2 i hi (Nat.le_of_lt (H.lt i hi))]
end My

namespace My
open PySem L2 Sim PyProof.Rows
/-! ### the law's own heights -/
theorem nat_beq (a b : Nat) : ((a : Int) == (b : Int)) = (a == b) := by
  cases e : (a == b) with
  | true => rw [beq_iff_eq] at e; rw [e]; simp
  | false => rw [beq_eq_false_iff_ne] at e ⊢; omega
def sub2 (x y : Nat) : Bool := (x &&& y) == x
end My

namespace My
open PySem L2 Sim PyProof.Rows
/-! ### what an order answers -/
section
variable {n : Nat} {le : Nat → Nat → Bool} {j m : Nat → Nat → Nat} {o : m_Order}
/-- the least, the greatest: folded -/
def fold0 (f : Nat → Nat → Nat) : Nat → Nat
  | 0 => 0
  | i + 1 => f (fold0 f i) i
theorem fold0_lub {f : Nat → Nat → Nat} (L : Lub n le f) (O : Ord n le) (h0 : 1 ≤ n) : ∀ i, i ≤ n → fold0 f i < n ∧ ∀ a, a < i → le a (fold0 f i) = true
  | 0, _ => ⟨by show 0 < n; omega, fun a ha => by omega⟩
  | i + 1, hi => by
    obtain ⟨h1, h2⟩ := fold0_lub L O h0 i (by omega)
    have h3 : f (fold0 f i) i < n := L.lt _ _ h1 (by omega)
    refine ⟨h3, fun a ha => ?_⟩
    show le a (f (fold0 f i) i) = true
    by_cases e : a = i
    · subst e; exact L.r _ _ h1 (by omega)
    · exact O.tr _ _ _ (by omega) h1 h3 (h2 a (by omega)) (L.l _ _ h1 (by omega))
theorem least_eq (h : IsOrd n le j m o) (L : Lat n le j m) : ∃ z : Nat, m_Order_least o = some (z : Int) ∧ z < n ∧ ∀ a, a < n → le z a = true := by
  obtain ⟨h1, h2⟩ := fold0_lub L.m L.o.op L.lo n (Nat.le_refl n)
  refine ⟨fold0 m n, ?_, h1, h2⟩
  unfold m_Order_least
  simp only [Option.bind_eq_bind, bs]
  rw [h.members]
  have := forS_tab (body := m_Order_least_b1 o) (a := fun i => (i : Int)) (S := fun i => ((fold0 m i : Nat) : Int)) (n := n) (fun i hi => by
    unfold m_Order_least_b1
    rw [h.meets]
    have h1 := atI2 (R := fun a b => some ((m a b : Nat) : Int)) (fold0_lub L.m L.o.op L.lo i (by omega)).1 hi
    rw [h1]
    rfl)
  show ((forS (m_Order_least_b1 o) (tab n fun i => (i : Int)) (((fold0 m 0 : Nat)) : Int)).bind some) = _
  rw [this]
  rfl
end
end My

namespace My
open PySem L2 Sim PyProof.Rows
/-! ### small laws for what the laws compute themselves -/
theorem ser {α β γ : Type} {f : α → γ} {g : β → γ} {a : β} : Sum.elim f g (Sum.inr a) = g a := Eq.trans (Eq.refl _) (Eq.refl _)
theorem bot_uniq {n : Nat} {le : Nat → Nat → Bool} (O : Ord n le) {z y : Nat} (hz : z < n) (hz' : ∀ a, a < n → le z a = true) (hy : y < n) (hy' : ∀ a, a < n → le y a = true) : z = y := O.an _ _ hz hy (hz' _ hy) (hy' _ hz)
/-! ### the law's own join, meet -/
theorem bitOr_nat (x y : Nat) : Builtin.bitOr (x : Int) (y : Int) = ((x ||| y : Nat) : Int) := by
  rw [Bits.bitOr_pp (by omega) (by omega)]; simp
theorem and_or_abs (x y : Nat) : x &&& (x ||| y) = x := by
  apply Nat.eq_of_testBit_eq
  intro i
  rw [Nat.testBit_and, Nat.testBit_or]
  cases x.testBit i <;> rfl
theorem or_le {x y z : Nat} : (z &&& (x ||| y) == (x ||| y)) = ((x &&& z == x) && (y &&& z == y)) := by
  have key : z &&& (x ||| y) = x ||| y ↔ x &&& z = x ∧ y &&& z = y := by
    constructor
    · intro h
      constructor
      · have h1 := and_or_abs x y
        rw [← h, ← Nat.and_assoc] at h1
        have h2 : x &&& z &&& (x ||| y) = x &&& (x ||| y) &&& z := by rw [Nat.and_assoc, Nat.and_assoc, Nat.and_comm z]
        rw [h2, and_or_abs] at h1
        exact h1
      · have h1 := and_or_abs y x
        rw [Nat.or_comm y x, ← h, ← Nat.and_assoc] at h1
        have h2 : y &&& z &&& (x ||| y) = y &&& (y ||| x) &&& z := by rw [Nat.and_assoc, Nat.and_assoc, Nat.and_comm z, Nat.or_comm]
        rw [h2, and_or_abs] at h1
        exact h1
    · rintro ⟨h1, h2⟩
      rw [Nat.and_or_distrib_left, Nat.and_comm z x, Nat.and_comm z y, h1, h2]
  cases e : (z &&& (x ||| y) == (x ||| y)) with
  | true =>
    rw [beq_iff_eq] at e
    obtain ⟨h1, h2⟩ := key.mp e
    rw [h1, h2]; simp
  | false =>
    rw [beq_eq_false_iff_ne] at e
    cases e2 : ((x &&& z == x) && (y &&& z == y)) with
    | false => rfl
    | true =>
      rw [Bool.and_eq_true, beq_iff_eq, beq_iff_eq] at e2
      exact absurd (key.mpr e2) e
theorem idx_val {ms : List Nat} {x : Nat} (nd : ms.Nodup) (hx : x ∈ ms) : idxM (fun a b => a == b) (nts ms) (x : Int) = some ((ms.idxOf x : Nat) : Int) := by
  obtain ⟨h1, h2⟩ := getD_idx hx
  have := idx_nts nd h1
  rw [h2] at this
  exact this
section
variable {ms : List Nat}
theorem top_of (h : Masks ms) : ∀ a, a < ms.length → mle ms a (ms.idxOf 31) = true := fun a ha => by
  obtain ⟨ht, ht31⟩ := getD_idx h.top
  unfold mle
  rw [ht31, beq_iff_eq]
  have := h.lt _ (getD_mem ha)
  have h2 : ms.getD a 0 % 2 ^ 5 = ms.getD a 0 := Nat.mod_eq_of_lt this
  rw [← Nat.and_two_pow_sub_one_eq_mod] at h2
  exact h2
theorem min_of (h : Masks ms) (hl : ms.length ≤ 12) : ∃ z, z < ms.length ∧ (∀ a, a < ms.length → mle ms z a = true) ∧ (minL (nts ms) >>= fun t => idxM (fun a b => a == b) (nts ms) t) = some (z : Int) := by
  have L := mLat h hl
  obtain ⟨h1, h2⟩ := fold0_lub L.m L.o.op L.lo ms.length (Nat.le_refl _)
  refine ⟨fold0 (mmeet ms) ms.length, h1, h2, ?_⟩
  have : minL (nts ms) = some ((ms.getD (fold0 (mmeet ms) ms.length) 0 : Nat) : Int) := by
    refine minL_of (mem_nts.mpr (getD_mem h1)) fun y hy => ?_
    unfold nts at hy
    obtain ⟨k, hk, rfl⟩ := List.mem_map.mp hy
    obtain ⟨g1, g2⟩ := getD_idx hk
    have := h2 _ g1
    unfold mle at this
    rw [beq_iff_eq, g2] at this
    have h3 := Nat.and_le_right (n := ms.getD (fold0 (mmeet ms) ms.length) 0) (m := k)
    rw [this] at h3
    omega
  rw [this]
  exact idx_nts h.nd h1
end
end My

/-! what is asked: a table's askers, alike -/
namespace My
open PySem L2 Sim PyProof.Rows
theorem contains_eq {n : Nat} {le : Nat → Nat → Bool} {j m : Nat → Nat → Nat} {o : m_Order} (h : IsOrd n le j m o) (v : Int) : m_Order___contains__ o v = some (decide (0 ≤ v) && decide (v < (n : Int))) := by
  unfold m_Order___contains__
  rw [h.members, tab_len]
  simp only [Option.bind_eq_bind, bs, andO]
  cases decide (0 ≤ v) <;> rfl
def addA (T : Str → Nat) (s : List (Str × Int)) (k : Str) : List (Str × Int) := if k ∈ s.map (·.1) then s else s ++ [(k, (T k : Int))]
theorem Asks.add {ns : List Str} {T : Str → Nat} {s : List (Str × Int)} {k : Str} (h : Asks ns T s) (hk : k ∈ ns) : Asks ns T (addA T s k) := by
  unfold addA
  split
  · exact h
  · rename_i hn
    refine ⟨?_, fun q hq => ?_⟩
    · rw [List.map_append, List.nodup_append]
      refine ⟨h.nd, by simp, fun a ha b hb => ?_⟩
      rw [show b = k by simpa using hb]
      intro z
      exact hn (z ▸ ha)
    · rcases List.mem_append.mp hq with hq | hq
      · exact h.mem q hq
      · rw [List.mem_singleton.mp hq]
        exact ⟨hk, rfl⟩
theorem appK {α : Type} {xs : List α} {x : α} (h : xs.length < 100000) : appM xs x = some (xs ++ [x]) := by unfold appM; rw [sz_t h]; rfl
theorem call_eq {look : List (Str × Int) → Str → Option (Xn ⊕ Int)} (ys : List (Str × Int)) (nm : Str) : m_call look ys nm = match lookM ys nm with
    | some v => some (Sum.inr v, ys)
    | none => look ys nm >>= fun r => Sum.elim (fun e => some (Sum.inl e, ys)) (fun v => appM ys (nm, v) >>= fun a => some (Sum.inr v, a)) r := by
  unfold m_call
  have := forL_find (body := m_call_b1 nm) (a := fun q : Str × Int => q) (p := fun q => decide (q.1 = nm)) (g := fun q => q.2) (xs := ys) (fun q _ => by
    unfold m_call_b1
    simp only [Option.bind_eq_bind, bs]
    cases decide (q.1 = nm) <;> rfl)
  rw [List.map_id'] at this
  rw [this]
  unfold lookM
  cases ys.find? fun q => decide (q.1 = nm) <;> rfl
/-- asked by a look that tells T -/
theorem call_asks {ns : List Str} {T : Str → Nat} {look : List (Str × Int) → Str → Option (Xn ⊕ Int)} {s : List (Str × Int)} {nm : Str} (h : Asks ns T s) (hs : ns.length ≤ 1000) (hl : look s nm = some (.inr (T nm : Int))) : m_call look s nm = some (.inr (T nm : Int), addA T s nm) := by
  rw [call_eq, h.look]
  unfold addA
  have hlen := h.len
  by_cases hk : nm ∈ s.map (·.1)
  · rw [if_pos hk, if_pos hk]
  · rw [if_neg hk, if_neg hk]
    show (look s nm >>= _) = _
    rw [hl]
    show (appM s (nm, (T nm : Int)) >>= _) = _
    rw [appK (by omega)]
    rfl
/-- the law's own list of asks -/
theorem look_asks {ns : List Str} {T : Str → Nat} {s d : List (Str × Int)} {nm : Str} (h : Asks ns T s) (hs : ns.length ≤ 1000) (hd : lookM d nm = some (T nm : Int)) : m__law_look s d nm = some ((T nm : Int), addA T s nm) := by
  unfold m__law_look
  simp only [Option.bind_eq_bind, bs]
  have := forL_find (body := m__law_look_b1 nm s) (a := fun q : Str × Int => q) (p := fun q => decide (q.1 = nm)) (g := fun q => (q.2, s)) (xs := s) (fun q _ => by
    unfold m__law_look_b1
    simp only [Option.bind_eq_bind, bs]
    cases decide (q.1 = nm) <;> rfl)
  rw [List.map_id'] at this
  rw [this]
  have hk := h.look nm
  have hlen := h.len
  unfold lookM at hk
  unfold addA
  cases e : s.find? fun q => decide (q.1 = nm) with
  | some q =>
    rw [e] at hk
    split at hk
    · rename_i hm
      rw [if_pos hm]
      have hk : q.2 = (T nm : Int) := Option.some.inj hk
      show some (q.2, s) = _
      rw [hk]
    · cases hk
  | none =>
    rw [e] at hk
    split at hk
    · cases hk
    · rename_i hm
      rw [if_neg hm, hd]
      show (appM s (nm, (T nm : Int))).bind _ = _
      rw [appK (by omega)]
      rfl
/-- a table asker's look at an allowed name -/
theorem tlook_eq {n : Nat} {le : Nat → Nat → Bool} {j m : Nat → Nat → Nat} {o : m_Order} {z : Nat} (h : IsOrd n le j m o) (ez : m_Order_least o = some (z : Int)) {tb : List (Str × Int)} {al : Option (List Str)} {nm : Str} {v : Nat} (hv : v < n) (hal : ∀ l, al = some l → nm ∈ l) (hl : lookM tb nm = some (v : Int)) (ys : List (Str × Int)) :
    m_TableAsker_look (o, tb, al) ys nm = some (.inr (v : Int)) := by
  unfold m_TableAsker_look
  have ha : (andO (some al.isSome) (al >>= fun al => some (!al.any fun z => z == nm))) = some false := by
    cases al with
    | none => rfl
    | some l =>
      show some (!(l.any fun z => z == nm)) = some false
      rw [any_mem, decide_eq_true (hal l rfl)]
      rfl
  show ((andO (some al.isSome) (al >>= fun al => some (!al.any fun z => z == nm))) >>= _) = _
  rw [ha]
  simp only [Option.bind_eq_bind, bs, cfa]
  show (((m_Order_least o).bind _).bind _) = _
  rw [ez]
  simp only [bs]
  rw [hl]
  show ((m_Order___contains__ o (v : Int)).bind _).bind _ = _
  rw [contains_eq h, decide_eq_true (show (0 : Int) ≤ (v : Int) by omega), decide_eq_true (show (v : Int) < (n : Int) by omega)]
  rfl
/-! ### a record made of asks -/
theorem copy_pairs (xs : List (Str × Int)) (h : xs.length < 100000) : lcS (fun _ => some true) (fun x : Str × Int => some (x.1, x.2)) xs = some xs := by
  rw [← mapS_eq, mapS_map (xs := xs) (g := fun x => x) (by omega) (fun _ _ => rfl), List.map_id']
theorem rec_loop {body : Str × Int → List Str → Option (List Str)} (hb : ∀ q s, q.1 ∉ s → s.length < 2000 → body q s = some (s ++ [q.1])) : ∀ (xs : List (Str × Int)) (s : List Str), (s ++ xs.map (·.1)).Nodup → s.length + xs.length < 2000 → ∃ s', forS body xs s = some s'
  | [], s, _, _ => ⟨s, rfl⟩
  | q :: xs, s, nd, hs => by
    rw [List.length_cons] at hs
    have hq : q.1 ∉ s := fun hm => by
      rw [List.nodup_append] at nd
      exact nd.2.2 q.1 hm q.1 (by simp) rfl
    show ∃ s', (body q s >>= forS body xs) = some s'
    rw [hb q s hq (by omega)]
    exact rec_loop hb xs (s ++ [q.1]) (by rw [List.append_assoc]; exact nd) (by rw [List.length_append, List.length_singleton]; omega)
theorem rec_eqC {asks : List (Str × Int)} (nd : (asks.map (·.1)).Nodup) (hl : asks.length < 2000) (nm : Str) (r : Int) : m_Record___init___C nm asks r = some ⟨nm, asks, r⟩ := by
  unfold m_Record___init___C
  simp only [Option.bind_eq_bind, bs]
  obtain ⟨s', e⟩ := rec_loop (body := m_Record___init___C_b1) (fun q s hq hs => by
    unfold m_Record___init___C_b1
    rw [any_mem, decide_eq_false hq]
    simp only [Option.bind_eq_bind, bs, cfa]
    rw [appK (by omega)]; rfl) asks [] nd (by show 0 + asks.length < 2000; omega)
  rw [e]
  simp only [bs]
  rw [copy_pairs asks (by omega)]
  rfl
end My

namespace My
open PySem L2 Sim PyProof.Rows
section
variable {n : Nat} {le : Nat → Nat → Bool} {j m : Nat → Nat → Nat} {o : m_Order}
theorem greatest_eq (h : IsOrd n le j m o) (L : Lat n le j m) : ∃ z : Nat, m_Order_greatest o = some (z : Int) ∧ z < n ∧ ∀ a, a < n → le a z = true := by
  obtain ⟨h1, h2⟩ := fold0_lub L.j L.o L.lo n (Nat.le_refl n)
  refine ⟨fold0 j n, ?_, h1, h2⟩
  unfold m_Order_greatest
  simp only [Option.bind_eq_bind, bs]
  rw [h.members]
  have := forS_tab (body := m_Order_greatest_b1 o) (a := fun i => (i : Int)) (S := fun i => ((fold0 j i : Nat) : Int)) (n := n) (fun i hi => by
    unfold m_Order_greatest_b1
    rw [h.joins]
    have h1 := atI2 (R := fun a b => some ((j a b : Nat) : Int)) (fold0_lub L.j L.o L.lo i (by omega)).1 hi
    rw [h1]
    rfl)
  show ((forS (m_Order_greatest_b1 o) (tab n fun i => (i : Int)) (((fold0 j 0 : Nat)) : Int)).bind some) = _
  rw [this]
  rfl
end
end My

namespace My
open PySem L2 Sim PyProof.Rows
theorem aint_beq (a b : Nat) : ((a : Int) == (b : Int)) = (a == b) := nat_beq a b
section
variable {ms : List Nat} {a b : Nat}
theorem ljoin_eq (hM : Masks ms) (ha : a < ms.length) (hb : b < ms.length) : m__law_join (nts ms) (a : Int) (b : Int) = some ((mjoin ms a b : Nat) : Int) := by
  unfold m__law_join
  rw [atI_nts ha, atI_nts hb]
  simp only [Option.bind_eq_bind, bs, bitOr_nat]
  have loop : ∀ (xs : List Nat) (s : Nat), s < 32 → forS (m__law_join_b1 ((ms.getD a 0 ||| ms.getD b 0 : Nat) : Int)) (nts xs) (s : Int) = some ((s &&& andAll (xs.filter fun z => (ms.getD a 0 &&& z == ms.getD a 0) && (ms.getD b 0 &&& z == ms.getD b 0)) : Nat) : Int) := by
    intro xs
    induction xs with
    | nil =>
      intro s hs
      have : s % 2 ^ 5 = s := Nat.mod_eq_of_lt hs
      rw [← Nat.and_two_pow_sub_one_eq_mod] at this
      show some (s : Int) = some ((s &&& 31 : Nat) : Int)
      rw [this]
    | cons x xs ih =>
      intro s hs
      show (m__law_join_b1 ((ms.getD a 0 ||| ms.getD b 0 : Nat) : Int) (x : Int) (s : Int) >>= forS (m__law_join_b1 ((ms.getD a 0 ||| ms.getD b 0 : Nat) : Int)) (nts xs)) = _
      unfold m__law_join_b1
      simp only [Option.bind_eq_bind, bs, bitAnd_nat]
      rw [aint_beq, or_le, List.filter_cons]
      cases e : ((ms.getD a 0 &&& x == ms.getD a 0) && (ms.getD b 0 &&& x == ms.getD b 0)) with
      | true =>
        simp only [ctr, bs, if_true]
        have h1 : (s &&& x) < 32 := Nat.lt_of_le_of_lt Nat.and_le_left hs
        have := ih (s &&& x) h1
        rw [Nat.and_assoc] at this
        exact this
      | false =>
        simp only [cfa, bs]
        exact ih s hs
  have h2 := loop ms 31 (by decide)
  have h31 : ∀ xs : List Nat, 31 &&& andAll xs = andAll xs := by
    intro xs
    cases xs with
    | nil => rfl
    | cons x xs =>
      have hlt : ∀ ys : List Nat, andAll ys < 32 := by
        intro ys
        induction ys with
        | nil => decide
        | cons y ys ih => exact Nat.lt_of_le_of_lt Nat.and_le_right ih
      have : andAll (x :: xs) % 2 ^ 5 = andAll (x :: xs) := Nat.mod_eq_of_lt (hlt _)
      rw [← Nat.and_two_pow_sub_one_eq_mod] at this
      rw [Nat.and_comm]
      exact this
  rw [h31] at h2
  have h2 : forS (m__law_join_b1 ((ms.getD a 0 ||| ms.getD b 0 : Nat) : Int)) (nts ms) (31 : Int) = _ := h2
  rw [h2]
  simp only [bs]
  have hm := andAll_mem hM (xs := ms.filter fun z => (ms.getD a 0 &&& z == ms.getD a 0) && (ms.getD b 0 &&& z == ms.getD b 0)) fun x hx => (List.mem_filter.mp hx).1
  rw [idx_val hM.nd hm]
  rfl
theorem lmeet_eq (hM : Masks ms) (ha : a < ms.length) (hb : b < ms.length) : m__law_meet (nts ms) (a : Int) (b : Int) = some ((mmeet ms a b : Nat) : Int) := by
  unfold m__law_meet
  rw [atI_nts ha, atI_nts hb]
  simp only [Option.bind_eq_bind, bs, bitAnd_nat]
  rw [idx_val hM.nd (hM.cl _ (getD_mem ha) _ (getD_mem hb))]
  rfl
end
end My

/-! drawn tables over all names -/
namespace My
open PySem L2 Sim PyProof.Rows
section
variable {ms : List Nat} {ns : List Str}
theorem table_loop {n : Nat} {body : Str → List Int × List (Str × Int) → Option (List Int × List (Str × Int))} (hb : ∀ x s, s.2.length < 1000 → ∃ v pot', v < n ∧ body x s = some (pot', putM s.2 x ((v : Nat) : Int))) :
    ∀ (xs : List Str) (s : List Int × List (Str × Int)), (s.2.map (·.1) ++ xs).Nodup → s.2.length + xs.length < 1000 → (∀ q ∈ s.2, ∃ k : Nat, k < n ∧ q.2 = (k : Int)) →
      ∃ pot' d, forS body xs s = some (pot', d) ∧ Full n (s.2.map (·.1) ++ xs) d
  | [], s, _, _, hs => ⟨s.1, s.2, rfl, by simp, hs⟩
  | x :: xs, s, nd, hl, hs => by
    rw [List.length_cons] at hl
    obtain ⟨v, pot', hv, e⟩ := hb x s (by omega)
    have hx : x ∉ s.2.map (·.1) := fun hm => by
      rw [List.nodup_append] at nd
      exact nd.2.2 x hm x (List.mem_cons_self ..) rfl
    rw [put_new hx] at e
    have hm : (s.2 ++ [(x, (v : Int))]).map (·.1) ++ xs = s.2.map (·.1) ++ x :: xs := by simp
    obtain ⟨p2, d, e2, F⟩ := table_loop hb xs (pot', s.2 ++ [(x, (v : Int))]) (by show ((s.2 ++ _).map (·.1) ++ xs).Nodup; rw [hm]; exact nd) (by show (s.2 ++ _).length + _ < _; rw [List.length_append, List.length_singleton]; omega) (fun q hq => by
      rcases List.mem_append.mp hq with hq | hq
      · exact hs q hq
      · rw [List.mem_singleton.mp hq]
        exact ⟨v, hv, rfl⟩)
    refine ⟨p2, d, ?_, hm ▸ F⟩
    show (body x s >>= forS body xs) = _
    rw [e]
    exact e2
end
end My

namespace My
open PySem L2 Sim PyProof.Rows
/-! ### what an order refuses -/
def badE (v : Int) : Xn := ⟨"NotElement", [("value", .int v)]⟩
def inR (n : Nat) (x : Int) : Bool := !(decide (x < 0) || decide ((n : Int) ≤ x))
theorem inR_nat {n a : Nat} (h : a < n) : inR n (a : Int) = true := by unfold inR; simp; omega
theorem inR_of {n : Nat} {x : Int} (h : inR n x = true) : ∃ a : Nat, a < n ∧ x = (a : Int) := by
  unfold inR at h
  simp at h
  exact ⟨x.toNat, by omega, by omega⟩
section
variable {n : Nat} {le : Nat → Nat → Bool} {j m : Nat → Nat → Nat} {o : m_Order}
def rq (n : Nat) (x y : Int) : Option Int := bif inR n x then (bif inR n y then none else some y) else some x
theorem requireX_eq (h : IsOrd n le j m o) (x y : Int) : m_Order__require_X o x y = some (match rq n x y with | none => .inr () | some v => .inl (badE v)) := by
  have b : ∀ z, m_Order__require_X_b1 o z () = some (bif inR n z then .nx () else .rt (.inl (badE z))) := fun z => by
    unfold m_Order__require_X_b1
    rw [h.members, tab_len]
    simp only [Option.bind_eq_bind, bs]
    unfold inR
    cases (decide (z < 0) || decide ((n : Int) ≤ z)) <;> rfl
  unfold m_Order__require_X
  simp only [Option.bind_eq_bind, bs]
  unfold rq
  cases e1 : inR n x with
  | false =>
    have : forL (m_Order__require_X_b1 o) [x, y] () = some (.inr (.inl (badE x))) := by
      show (m_Order__require_X_b1 o x () >>= stpK (forL (m_Order__require_X_b1 o) [y])) = _
      rw [b, e1]; rfl
    rw [this]; rfl
  | true =>
    cases e2 : inR n y with
    | false =>
      have : forL (m_Order__require_X_b1 o) [x, y] () = some (.inr (.inl (badE y))) := by
        show (m_Order__require_X_b1 o x () >>= stpK (forL (m_Order__require_X_b1 o) [y])) = _
        rw [b, e1]
        show (m_Order__require_X_b1 o y () >>= stpK (forL (m_Order__require_X_b1 o) [])) = _
        rw [b, e2]; rfl
      rw [this]; rfl
    | true =>
      have : forL (m_Order__require_X_b1 o) [x, y] () = some (.inl ()) := by
        show (m_Order__require_X_b1 o x () >>= stpK (forL (m_Order__require_X_b1 o) [y])) = _
        rw [b, e1]
        show (m_Order__require_X_b1 o y () >>= stpK (forL (m_Order__require_X_b1 o) [])) = _
        rw [b, e2]; rfl
      rw [this]; rfl
theorem joinX_bad (h : IsOrd n le j m o) {x y v : Int} (e : rq n x y = some v) : m_Order_join_of_X o x y = some (.inl (badE v)) := by
  unfold m_Order_join_of_X
  rw [requireX_eq h, e]; rfl
theorem meetX_bad (h : IsOrd n le j m o) {x y v : Int} (e : rq n x y = some v) : m_Order_meet_of_X o x y = some (.inl (badE v)) := by
  unfold m_Order_meet_of_X
  rw [requireX_eq h, e]; rfl
theorem rq_nat {a b : Nat} (ha : a < n) (hb : b < n) : rq n (a : Int) (b : Int) = none := by unfold rq; rw [inR_nat ha, inR_nat hb]; rfl
theorem joinX_eq (h : IsOrd n le j m o) {a b : Nat} (ha : a < n) (hb : b < n) : m_Order_join_of_X o (a : Int) (b : Int) = some (.inr ((j a b : Nat) : Int)) := by
  unfold m_Order_join_of_X
  rw [requireX_eq h, rq_nat ha hb, h.joins]
  have h1 := atI2 (R := fun a b => some ((j a b : Nat) : Int)) ha hb
  rw [h1]
  rfl
theorem meetX_eq (h : IsOrd n le j m o) {a b : Nat} (ha : a < n) (hb : b < n) : m_Order_meet_of_X o (a : Int) (b : Int) = some (.inr ((m a b : Nat) : Int)) := by
  unfold m_Order_meet_of_X
  rw [requireX_eq h, rq_nat ha hb, h.meets]
  have h1 := atI2 (R := fun a b => some ((m a b : Nat) : Int)) ha hb
  rw [h1]
  rfl
end
end My

/-! two parts joined or met: the law's walk and the sides -/
namespace My
open PySem L2 Sim PyProof.Rows
abbrev PT : Type := Str × Str × Int × Int × Unit
def sdPt (q : PT) : Sd := bif decide (q.1 = ("copy" : Str)) then .copy q.2.1 else bif decide (q.1 = ("gate" : Str)) then .gate q.2.1 q.2.2.1 (.tell q.2.2.2.1) else bif decide (q.1 = ("plain" : Str)) then .fnCopying q.2.1 else bif decide (q.1 = ("raise" : Str)) then .fnStop else .tell q.2.2.2.1
theorem made_eq (q : PT) : m__law_part_made q = some (sdPt q) := by
  unfold m__law_part_made sdPt
  simp only [Option.bind_eq_bind, bs]
  cases decide (q.1 = ("copy" : Str)) with
  | true => rfl
  | false =>
    cases decide (q.1 = ("gate" : Str)) with
    | true => rfl
    | false =>
      cases decide (q.1 = ("plain" : Str)) with
      | true => rfl
      | false => cases decide (q.1 = ("raise" : Str)) <;> rfl
theorem lev_pt (q : PT) : levSd (sdPt q) ≤ 20 := by
  unfold sdPt
  cases decide (q.1 = ("copy" : Str)) with
  | true => show 15 ≤ 20; decide
  | false =>
    cases decide (q.1 = ("gate" : Str)) with
    | true => show 20 ≤ 20; decide
    | false =>
      cases decide (q.1 = ("plain" : Str)) with
      | true => show 20 ≤ 20; decide
      | false => cases decide (q.1 = ("raise" : Str)) <;> (first | (show 15 ≤ 20; decide) | (show 20 ≤ 20; decide))
structure PtOk (n : Nat) (ns : List Str) (q : PT) : Prop where
  nm : q.2.1 ∈ ns
  at_ : ∃ k : Nat, k < n ∧ q.2.2.1 = (k : Int)
  vl : q.1 ≠ ("bad" : Str) → ∃ k : Nat, k < n ∧ q.2.2.2.1 = (k : Int)
inductive Out where
  | told (s : List (Str × Int)) (v : Int)
  | raised
  | elem (v : Int)
def encO : Out → PyData
  | .told s v => .tuple [.str ("told" : Str), .list (s.map fun p => .tuple [.str p.1, .int p.2]), .int v]
  | .raised => .tuple [.str ("raised" : Str), .str ("stranger10" : Str), .int 0]
  | .elem v => .tuple [.str ("element" : Str), .int v, .int 0]
theorem enc_dep (x : Out) : (encO x).depth ≤ 20 := by
  cases x with
  | told s v =>
    have := (dtN (dtaC dtS (dtaC (dtL (dtP dtS dtI)) (dtaC dtI dtaN)))).dep (("told" : Str), s, v, ())
    exact Nat.le_trans this (by decide)
  | raised =>
    have := (dtN (dtaC dtS (dtaC dtS (dtaC dtI dtaN)))).dep (("raised" : Str), ("stranger10" : Str), (0 : Int), ())
    exact Nat.le_trans this (by decide)
  | elem v =>
    have := (dtN (dtaC dtS (dtaC dtI (dtaC dtI dtaN)))).dep (("element" : Str), v, (0 : Int), ())
    exact Nat.le_trans this (by decide)
theorem enc_self (x : Out) : PyData.eqv (encO x) (encO x) = true := by
  cases x with
  | told s v => exact ((dtN (dtaC dtS (dtaC (dtL (dtP dtS dtI)) (dtaC dtI dtaN)))).eq (("told" : Str), s, v, ()) (("told" : Str), s, v, ())).mpr rfl
  | raised => exact ((dtN (dtaC dtS (dtaC dtS (dtaC dtI dtaN)))).eq (("raised" : Str), ("stranger10" : Str), (0 : Int), ()) (("raised" : Str), ("stranger10" : Str), (0 : Int), ())).mpr rfl
  | elem v => exact ((dtN (dtaC dtS (dtaC dtI (dtaC dtI dtaN)))).eq (("element" : Str), v, (0 : Int), ()) (("element" : Str), v, (0 : Int), ())).mpr rfl
theorem to_enc (x : Out) : toDM (encO x) = some (encO x) := by
  unfold toDM
  rw [decide_eq_true (enc_dep x)]
  rfl
theorem inR_c {n : Nat} {v : Int} : (decide (0 ≤ v) && decide (v < (n : Int))) = inR n v := by
  unfold inR
  by_cases h1 : v < 0
  · rw [decide_eq_true h1, decide_eq_false (show ¬ 0 ≤ v by omega)]
    rfl
  · rw [decide_eq_false h1, decide_eq_true (show 0 ≤ v by omega)]
    by_cases h2 : v < (n : Int)
    · rw [decide_eq_true h2, decide_eq_false (show ¬ (n : Int) ≤ v by omega)]
      rfl
    · rw [decide_eq_false h2, decide_eq_true (show (n : Int) ≤ v by omega)]
      rfl
section
variable {ms : List Nat} {ns : List Str} {z : Nat} {o : m_Order} {d : List (Str × Int)}
abbrev askD (o : m_Order) (d : List (Str × Int)) : List (Str × Int) → Str → Option ((Xn ⊕ Int) × List (Str × Int)) := fun ys nm => m_call (m_TableAsker_look (o, d, none)) ys nm
theorem ask_eq (hO : IsOrd ms.length (mle ms) (mjoin ms) (mmeet ms) o) (ez : m_Order_least o = some (z : Int)) (F : Full ms.length ns d) (nd : ns.Nodup) (hs : ns.length ≤ 1000) {s : List (Str × Int)} {nm : Str} (h : Asks ns (TT d) s) (hn : nm ∈ ns) : askD o d s nm = some (.inr (TT d nm : Int), addA (TT d) s nm) :=
  call_asks h hs (tlook_eq hO ez (F.look nd hn).2 (fun l e => by cases e) (F.look nd hn).1 s)
/-- a part that tells: by the law, by the side -/
theorem part_eval (hl : ms.length ≤ 12) (hO : IsOrd ms.length (mle ms) (mjoin ms) (mmeet ms) o) (ez : m_Order_least o = some (z : Int)) (em : (minL (nts ms) >>= fun t => idxM (fun a b => a == b) (nts ms) t) = some (z : Int)) (F : Full ms.length ns d) (nd : ns.Nodup) (hs : ns.length ≤ 1000) {q : PT} (hq : PtOk ms.length ns q) (h1 : q.1 ≠ ("raise" : Str)) (h2 : q.1 ≠ ("twin" : Str)) (hk : q.1 ∈ [("tell" : Str), ("copy" : Str), ("gate" : Str), ("bad" : Str), ("twin" : Str), ("plain" : Str), ("raise" : Str)]) {s : List (Str × Int)} (h : Asks ns (TT d) s) :
    ∃ v s', m__law_part_value (nts ms) q s d = some (v, s') ∧ runSd (askD o d) o (sdPt q) s = some (.inr v, s') ∧ Asks ns (TT d) s' := by
  obtain ⟨kd, nm, at_, vl, u⟩ := q
  have hA := ask_eq hO ez F nd hs h hq.nm
  have hL := look_asks h hs (F.look nd hq.nm).1
  have hI := h.add hq.nm
  have hlt := (F.look nd hq.nm).2
  obtain ⟨k, hk9, e9⟩ := hq.at_
  dsimp only at hA hL hI h1 h2 hk hlt e9
  subst e9
  unfold m__law_part_value sdPt
  simp only [List.mem_cons, List.not_mem_nil, or_false] at hk
  rcases hk with rfl | rfl | rfl | rfl | rfl | rfl | rfl
  · exact ⟨vl, s, rfl, rfl, h⟩
  · refine ⟨(TT d nm : Int), addA (TT d) s nm, ?_, ?_, hI⟩
    · simp only [Option.bind_eq_bind, bs]
      rw [hL]
      rfl
    · show (askD o d s nm >>= _) = _
      rw [hA]
      rfl
  · refine ⟨bif mle ms k (TT d nm) then vl else (z : Int), addA (TT d) s nm, ?_, ?_, hI⟩
    · simp only [Option.bind_eq_bind, bs]
      rw [hL]
      show ((m__law_under (nts ms) (k : Int) (TT d nm : Int)).bind _) = _
      rw [under_eq hk9 hlt]
      simp only [bs]
      cases mle ms k (TT d nm) with
      | true => rfl
      | false =>
        have em : (minL (nts ms)).bind (fun t => idxM (fun a b => a == b) (nts ms) t) = some (z : Int) := em
        simp only [cond_false]
        rw [em]
        rfl
    · show (askD o d s nm >>= _) = _
      rw [hA]
      show (m_Order_below o (k : Int) (TT d nm : Int) >>= _) = _
      rw [below_eq hO hk9 hlt]
      simp only [Option.bind_eq_bind, bs]
      cases mle ms k (TT d nm) with
      | true => rfl
      | false =>
        simp only [cond_false]
        rw [ez]
        rfl
  · exact ⟨vl, s, rfl, rfl, h⟩
  · exact absurd rfl h2
  · refine ⟨(TT d nm : Int), addA (TT d) s nm, ?_, ?_, hI⟩
    · simp only [Option.bind_eq_bind, bs]
      rw [hL]
      rfl
    · show (askD o d s nm >>= _) = _
      rw [hA]
      rfl
  · exact absurd rfl h1
/-! ### what one evaluation tells -/
theorem got_val (hO : IsOrd ms.length (mle ms) (mjoin ms) (mmeet ms) o) (hs : ns.length ≤ 1000) {t : Sd} {s : List (Str × Int)} {v : Int} (hl : levSd t ≤ 60) (hr : runSd (askD o d) o t [] = some (.inr v, s)) (h : Asks ns (TT d) s) : m__law_pair_got t o d = some (encO (bif inR ms.length v then .told s v else .elem v)) := by
  have := h.len
  unfold m__law_pair_got m_TableAsker___init__ m_evaluate_side
  simp only [Option.bind_eq_bind, bs]
  rw [callSd_to (show levSd t ≤ 50 + 10 by omega), hr]
  simp only [bs, ser]
  rw [contains_eq hO, inR_c]
  simp only [bs]
  cases inR ms.length v with
  | true =>
    simp only [Bool.not_true, cond_false]
    rw [rec_eqC h.nd (by omega)]
    rfl
  | false => rfl
theorem got_bad {t : Sd} {s : List (Str × Int)} {v : Int} (hl : levSd t ≤ 60) (hr : runSd (askD o d) o t [] = some (.inl (badE v), s)) : m__law_pair_got t o d = some (encO (.elem v)) := by
  unfold m__law_pair_got m_TableAsker___init__ m_evaluate_side
  simp only [Option.bind_eq_bind, bs]
  rw [callSd_to (show levSd t ≤ 50 + 10 by omega), hr]
  rfl
theorem got_stop {t : Sd} {s : List (Str × Int)} (hl : levSd t ≤ 60) (hr : runSd (askD o d) o t [] = some (.inl ⟨"NotDue", [("name", .str ("stranger10" : Str))]⟩, s)) : m__law_pair_got t o d = some (encO .raised) := by
  unfold m__law_pair_got m_TableAsker___init__ m_evaluate_side
  simp only [Option.bind_eq_bind, bs]
  rw [callSd_to (show levSd t ≤ 50 + 10 by omega), hr]
  rfl
/-! ### two parts -/
def jn (meets : Bool) (a b : Sd) : Sd := bif meets then .meet a b else .join a b
def stP (ms : List Nat) (z : Nat) (meets : Bool) : Nat := bif meets then z else ms.idxOf 31
def opX (meets : Bool) (o : m_Order) (u v : Int) : Option (Xn ⊕ Int) := bif meets then m_Order_meet_of_X o u v else m_Order_join_of_X o u v
def opN (ms : List Nat) (meets : Bool) (a b : Nat) : Nat := bif meets then mmeet ms a b else mjoin ms a b
theorem run_jn (ez : m_Order_least o = some (z : Int)) (eg : m_Order_greatest o = some ((ms.idxOf 31 : Nat) : Int)) {meets : Bool} {a b : Sd} {v : Int} {s s0 : List (Str × Int)} (h : runSd (askD o d) o a s0 = some (.inr v, s)) :
    runSd (askD o d) o (jn meets a b) s0 = bif (v == ((stP ms z meets : Nat) : Int)) then some (.inr v, s) else (runSd (askD o d) o b s >>= fun y => Sum.elim (fun e => some (Sum.inl e, y.2)) (fun u => opX meets o v u >>= fun q => Sum.elim (fun e => some (Sum.inl e, y.2)) (fun j => some (Sum.inr j, y.2)) q) y.1) := by
  cases meets with
  | true =>
    show (runSd (askD o d) o a s0 >>= _) = _
    rw [h]
    show ((m_Order_least o >>= _) >>= _) = _
    rw [ez]
    rfl
  | false =>
    show (runSd (askD o d) o a s0 >>= _) = _
    rw [h]
    show ((m_Order_greatest o >>= _) >>= _) = _
    rw [eg]
    rfl
theorem lev_jn (meets : Bool) (a b : PT) : levSd (jn meets (sdPt a) (sdPt b)) ≤ 60 := by
  have h1 := lev_pt a
  have h2 := lev_pt b
  cases meets with
  | true => show max (levSd (sdPt a)) (levSd (sdPt b)) + 5 ≤ 60; omega
  | false => show max (levSd (sdPt a)) (levSd (sdPt b)) + 5 ≤ 60; omega
theorem opX_bad (hO : IsOrd ms.length (mle ms) (mjoin ms) (mmeet ms) o) {meets : Bool} {x y v : Int} (e : rq ms.length x y = some v) : opX meets o x y = some (.inl (badE v)) := by
  cases meets with
  | true => exact meetX_bad hO e
  | false => exact joinX_bad hO e
theorem opX_eq (hM : Masks ms) (hO : IsOrd ms.length (mle ms) (mjoin ms) (mmeet ms) o) {meets : Bool} {a b : Nat} (ha : a < ms.length) (hb : b < ms.length) : opX meets o (a : Int) (b : Int) = some (.inr ((opN ms meets a b : Nat) : Int)) ∧ opN ms meets a b < ms.length := by
  cases meets with
  | true => exact ⟨meetX_eq hO ha hb, (mMeet hM).lt a b ha hb⟩
  | false => exact ⟨joinX_eq hO ha hb, (mJoin hM).lt a b ha hb⟩
theorem due_b1 (x : Int) : m__law_pair_due_b1 (nts ms) x () = some (bif inR ms.length x then .nx () else .rt (encO (.elem x))) := by
  unfold m__law_pair_due_b1
  rw [nts_len]
  simp only [Option.bind_eq_bind, bs]
  unfold inR
  cases (decide (x < 0) || decide ((ms.length : Int) ≤ x)) with
  | false => rfl
  | true =>
    simp only [cond_true, Bool.not_true]
    have := to_enc (.elem x)
    unfold encO at this
    rw [this]
    rfl
theorem both_eq (hM : Masks ms) (hl : ms.length ≤ 12) (hO : IsOrd ms.length (mle ms) (mjoin ms) (mmeet ms) o) (ez : m_Order_least o = some (z : Int)) (hz : z < ms.length) (eg : m_Order_greatest o = some ((ms.idxOf 31 : Nat) : Int)) (em : (minL (nts ms) >>= fun t => idxM (fun a b => a == b) (nts ms) t) = some (z : Int)) (et : idxM (fun a b => a == b) (nts ms) (31 : Int) = some ((ms.idxOf 31 : Nat) : Int)) (F : Full ms.length ns d) (nd : ns.Nodup) (hs : ns.length ≤ 1000) {l r : PT} (hL : PtOk ms.length ns l) (hR : PtOk ms.length ns r) (hk : l.1 ∈ [("tell" : Str), ("copy" : Str), ("gate" : Str), ("bad" : Str), ("twin" : Str), ("plain" : Str), ("raise" : Str)]) (hk' : r.1 ∈ [("tell" : Str), ("copy" : Str), ("gate" : Str), ("bad" : Str), ("twin" : Str), ("plain" : Str), ("raise" : Str)]) (hl1 : l.1 ≠ ("raise" : Str)) (hl2 : l.1 ≠ ("twin" : Str)) (hr2 : r.1 ≠ ("twin" : Str)) (meets : Bool) :
    ∃ X, m__law_pair_due (nts ms) l r meets d = some (encO X) ∧ m__law_pair_got (jn meets (sdPt l) (sdPt r)) o d = some (encO X) := by
  obtain ⟨v1, s1, e1, r1, i1⟩ := part_eval hl hO ez em F nd hs hL hl1 hl2 hk Asks.nil
  have hrun := run_jn (meets := meets) (b := sdPt r) ez eg r1
  have hlv := lev_jn meets l r
  have hst : stP ms z meets < ms.length := by
    cases meets with
    | true => exact hz
    | false => exact List.idxOf_lt_length_iff.mpr hM.top
  have em' : (minL (nts ms)).bind (fun t => idxM (fun a b => a == b) (nts ms) t) = some (z : Int) := em
  have e3 : (bif meets then (idxM (fun a b => a == b) (nts ms) (31 : Int) >>= fun s => some s) else some ((ms.idxOf 31 : Nat) : Int)) = some ((ms.idxOf 31 : Nat) : Int) := by
    rw [et]
    cases meets <;> rfl
  unfold m__law_pair_due
  simp only [Option.bind_eq_bind, bs]
  rw [e1]
  simp only [bs]
  rw [et]
  simp only [bs]
  rw [em']
  simp only [bs]
  rw [show (bif meets then some (z : Int) else some ((ms.idxOf 31 : Nat) : Int)) = some ((stP ms z meets : Nat) : Int) from by cases meets <;> rfl]
  simp only [bs]
  cases hb : (v1 == ((stP ms z meets : Nat) : Int)) with
  | true =>
    rw [hb] at hrun
    have hv : v1 = ((stP ms z meets : Nat) : Int) := beq_iff_eq.mp hb
    have hg := got_val hO hs hlv hrun i1
    rw [show inR ms.length v1 = true from by rw [hv]; exact inR_nat hst] at hg
    refine ⟨.told s1 v1, ?_, hg⟩
    have := to_enc (.told s1 v1)
    unfold encO at this
    simp only [cond_true]
    rw [this]
    rfl
  | false =>
    rw [hb] at hrun
    simp only [cond_false] at hrun ⊢
    by_cases hr1 : r.1 = ("raise" : Str)
    · have es : sdPt r = .fnStop := by unfold sdPt; rw [hr1]; rfl
      have hrun : runSd (askD o d) o (jn meets (sdPt l) (sdPt r)) [] = some (.inl ⟨"NotDue", [("name", .str ("stranger10" : Str))]⟩, s1) := by
        rw [hrun, es]
        rfl
      refine ⟨.raised, ?_, got_stop hlv hrun⟩
      rw [decide_eq_true hr1]
      have := to_enc .raised
      unfold encO at this
      simp only [cond_true]
      rw [this]
      rfl
    · obtain ⟨v2, s2, e2, r2, i2⟩ := part_eval hl hO ez em F nd hs hR hr1 hr2 hk' i1
      rw [decide_eq_false hr1]
      simp only [cond_false]
      rw [e2]
      simp only [bs]
      rw [r2] at hrun
      simp only [Option.bind_eq_bind, bs, ser] at hrun
      cases q1 : inR ms.length v1 with
      | false =>
        have hq : rq ms.length v1 v2 = some v1 := by unfold rq; rw [q1]; rfl
        rw [opX_bad hO hq] at hrun
        refine ⟨.elem v1, ?_, got_bad hlv hrun⟩
        rw [show forL (m__law_pair_due_b1 (nts ms)) [v1, v2] () = some (.inr (encO (.elem v1))) from by
          show (m__law_pair_due_b1 (nts ms) v1 () >>= stpK (forL (m__law_pair_due_b1 (nts ms)) [v2])) = _
          rw [due_b1, q1]
          rfl]
        rfl
      | true =>
        cases q2 : inR ms.length v2 with
        | false =>
          have hq : rq ms.length v1 v2 = some v2 := by unfold rq; rw [q1, q2]; rfl
          rw [opX_bad hO hq] at hrun
          refine ⟨.elem v2, ?_, got_bad hlv hrun⟩
          rw [show forL (m__law_pair_due_b1 (nts ms)) [v1, v2] () = some (.inr (encO (.elem v2))) from by
            show (m__law_pair_due_b1 (nts ms) v1 () >>= stpK (forL (m__law_pair_due_b1 (nts ms)) [v2])) = _
            rw [due_b1, q1]
            show (m__law_pair_due_b1 (nts ms) v2 () >>= stpK (forL (m__law_pair_due_b1 (nts ms)) [])) = _
            rw [due_b1, q2]
            rfl]
          rfl
        | true =>
          obtain ⟨a, ha, rfl⟩ := inR_of q1
          obtain ⟨b, hb2, rfl⟩ := inR_of q2
          obtain ⟨ho, hlt⟩ := opX_eq hM hO (meets := meets) ha hb2
          rw [ho] at hrun
          have hg := got_val hO hs hlv hrun i2
          rw [inR_nat hlt] at hg
          refine ⟨.told s2 ((opN ms meets a b : Nat) : Int), ?_, hg⟩
          rw [show forL (m__law_pair_due_b1 (nts ms)) [(a : Int), (b : Int)] () = some (.inl ()) from by
            show (m__law_pair_due_b1 (nts ms) (a : Int) () >>= stpK (forL (m__law_pair_due_b1 (nts ms)) [(b : Int)])) = _
            rw [due_b1, q1]
            show (m__law_pair_due_b1 (nts ms) (b : Int) () >>= stpK (forL (m__law_pair_due_b1 (nts ms)) [])) = _
            rw [due_b1, q2]
            rfl]
          have := to_enc (.told s2 ((opN ms meets a b : Nat) : Int))
          unfold encO at this
          simp only [bs, Sum.elim_inl]
          cases meets with
          | true =>
            simp only [cond_true]
            rw [lmeet_eq hM ha hb2]
            simp only [bs]
            rw [show mmeet ms a b = opN ms true a b from rfl, this]
            rfl
          | false =>
            simp only [cond_false]
            rw [ljoin_eq hM ha hb2]
            simp only [bs]
            rw [show mjoin ms a b = opN ms false a b from rfl, this]
            rfl
end
end My

/-! the law: joined and met sides -/
namespace My
open PySem L2 Sim PyProof.Rows
abbrev K7 : List Str := [("tell" : Str), ("copy" : Str), ("gate" : Str), ("bad" : Str), ("twin" : Str), ("plain" : Str), ("raise" : Str)]
theorem k7_at {v : Nat} (hv : v < 7) : ∃ k, atI K7 (v : Int) = some k ∧ k ∈ K7 ∧ (v < 4 → k ≠ ("raise" : Str) ∧ k ≠ ("twin" : Str) ∧ k ≠ ("plain" : Str)) := by
  have : v = 0 ∨ v = 1 ∨ v = 2 ∨ v = 3 ∨ v = 4 ∨ v = 5 ∨ v = 6 := by omega
  rcases this with rfl | rfl | rfl | rfl | rfl | rfl | rfl
  · exact ⟨_, rfl, by decide, fun _ => by decide⟩
  · exact ⟨_, rfl, by decide, fun _ => by decide⟩
  · exact ⟨_, rfl, by decide, fun _ => by decide⟩
  · exact ⟨_, rfl, by decide, fun _ => by decide⟩
  · exact ⟨_, rfl, by decide, fun h => absurd h (by decide)⟩
  · exact ⟨_, rfl, by decide, fun h => absurd h (by decide)⟩
  · exact ⟨_, rfl, by decide, fun h => absurd h (by decide)⟩
theorem part_drawn {n : Nat} {ns : List Str} (h0 : 0 < n) (hn : 0 < ns.length) (pot : List Int) (m : Nat) (hm : 0 < m) (hm7 : m ≤ 7) {mi : Int} (hmi : mi = (m : Int)) : ∃ q pot', m__law_part pot ns (n : Int) mi = some (q, pot') ∧ PtOk n ns q ∧ q.1 ∈ K7 ∧ (m ≤ 4 → q.1 ≠ ("raise" : Str) ∧ q.1 ≠ ("twin" : Str) ∧ q.1 ≠ ("plain" : Str)) := by
  subst hmi
  unfold m__law_part
  simp only [Option.bind_eq_bind, bs]
  obtain ⟨v, p1, e, hv⟩ := draw_eq pot hm
  rw [e]
  simp only [bs]
  obtain ⟨k, ek, hk, hk4⟩ := k7_at (v := v) (by omega)
  rw [show atI [("tell" : Str), ("copy" : Str), ("gate" : Str), ("bad" : Str), ("twin" : Str), ("plain" : Str), ("raise" : Str)] (v : Int) = some k from ek]
  simp only [bs]
  obtain ⟨x, p2, e, hx⟩ := draw_eq p1 hn
  rw [e]
  simp only [bs]
  rw [atI_nat hx]
  simp only [bs]
  obtain ⟨u, p3, e, hu⟩ := draw_eq p2 h0
  rw [e]
  simp only [bs]
  by_cases hb : k = ("bad" : Str)
  · rw [decide_eq_true hb]
    simp only [cond_true]
    rw [show powM (10 : Int) (17 : Int) = some 100000000000000000 by rfl]
    simp only [bs]
    obtain ⟨b, p4, e, hb4⟩ := draw_lit p3 4 (by decide) (z := 4) rfl
    rw [e]
    simp only [bs]
    obtain ⟨bad, eb⟩ : ∃ bad, atI [(n : Int), ((n : Int) + (3 : Int)), 100000000000000000, (-(1 : Int))] (b : Int) = some bad := by
      rw [atI_nat (show b < [(n : Int), ((n : Int) + (3 : Int)), 100000000000000000, (-(1 : Int))].length from hb4)]
      exact ⟨_, rfl⟩
    rw [eb]
    simp only [bs]
    obtain ⟨a, p5, e, ha⟩ := draw_eq p4 h0
    rw [e]
    simp only [bs]
    exact ⟨_, _, rfl, ⟨List.getElem_mem hx, ⟨a, ha, rfl⟩, fun h => absurd hb h⟩, hk, fun h => hk4 (by omega)⟩
  · rw [decide_eq_false hb]
    simp only [cond_false, bs]
    obtain ⟨a, p5, e, ha⟩ := draw_eq p3 h0
    rw [e]
    simp only [bs]
    exact ⟨_, _, rfl, ⟨List.getElem_mem hx, ⟨a, ha, rfl⟩, fun _ => ⟨u, hu, rfl⟩⟩, hk, fun h => hk4 (by omega)⟩
theorem obj_of {q : PT} (h1 : q.1 ≠ ("raise" : Str)) (h2 : q.1 ≠ ("plain" : Str)) : objB (sdPt q) = true := by
  unfold sdPt
  rw [decide_eq_false h1, decide_eq_false h2]
  cases decide (q.1 = ("copy" : Str)) with
  | true => rfl
  | false => cases decide (q.1 = ("gate" : Str)) <;> rfl
theorem forL_keep {α σ ρ : Type} {body : α → σ → Option (Stp σ ρ)} {I : σ → Prop} : ∀ {xs : List α} {s : σ}, I s → (∀ x ∈ xs, ∀ s, I s → ∃ s', body x s = some (.nx s') ∧ I s') → ∃ s', forL body xs s = some (.inl s') ∧ I s'
  | [], s, h, _ => ⟨s, rfl, h⟩
  | x :: xs, s, h, hs => by
    obtain ⟨s1, e1, h1⟩ := hs x (List.mem_cons_self ..) s h
    obtain ⟨s2, e2, h2⟩ := forL_keep (xs := xs) h1 fun y hy t => hs y (List.mem_cons_of_mem _ hy) t
    refine ⟨s2, ?_, h2⟩
    show (body x s >>= stpK (forL body xs)) = _
    rw [e1]; exact e2
section
variable {ms : List Nat} {ns : List Str} {z : Nat} {o : m_Order} {d : List (Str × Int)}
/-- a part by itself: told the same each time -/
theorem one_some (hl : ms.length ≤ 12) (hO : IsOrd ms.length (mle ms) (mjoin ms) (mmeet ms) o) (ez : m_Order_least o = some (z : Int)) (em : (minL (nts ms) >>= fun t => idxM (fun a b => a == b) (nts ms) t) = some (z : Int)) (F : Full ms.length ns d) (nd : ns.Nodup) (hs : ns.length ≤ 1000) {q : PT} (hq : PtOk ms.length ns q) (h2 : q.1 ≠ ("twin" : Str)) (hk : q.1 ∈ K7) : ∃ X, m__law_pair_got (sdPt q) o d = some (encO X) := by
  have hlv : levSd (sdPt q) ≤ 60 := Nat.le_trans (lev_pt q) (by decide)
  by_cases h1 : q.1 = ("raise" : Str)
  · have es : sdPt q = .fnStop := by unfold sdPt; rw [h1]; rfl
    rw [es] at hlv ⊢
    exact ⟨.raised, got_stop (s := []) hlv rfl⟩
  · obtain ⟨v1, s1, e1, r1, i1⟩ := part_eval hl hO ez em F nd hs hq h1 h2 hk Asks.nil
    exact ⟨_, got_val hO hs hlv r1 i1⟩
end
theorem law_true (sc : List Int) : m_law sc = some true := by
  obtain ⟨pot, e⟩ := pot_eq sc
  unfold m_law
  rw [e]
  simp only [Option.bind_eq_bind, bs]
  obtain ⟨ms, p1, e, hM, hl⟩ := masks_eq pot (most := 6) (by decide)
  have e : m__law_masks pot 6 = some (nts ms, p1) := e
  rw [e]
  simp only [bs, nts_len]
  rw [pairs_eq (ms := ms) (by omega)]
  simp only [bs]
  have L := mLat hM (by omega)
  obtain ⟨o, e, hO⟩ := Order_init_eq L (relp_gens hM)
  rw [e]
  simp only [bs]
  obtain ⟨z, hz, hz', em⟩ := min_of hM (by omega)
  obtain ⟨z2, ez, hz2, hz2'⟩ := least_eq hO L
  have := bot_uniq L.o hz hz' hz2 hz2'
  subst this
  obtain ⟨t2, eg, ht2, ht2'⟩ := greatest_eq hO L
  have h31 := List.idxOf_lt_length_iff.mpr hM.top
  have : t2 = ms.idxOf 31 := L.o.an _ _ ht2 h31 (top_of hM _ ht2) (ht2' _ h31)
  subst this
  have et : idxM (fun a b => a == b) (nts ms) (31 : Int) = some ((ms.idxOf 31 : Nat) : Int) := idx_val hM.nd hM.top
  obtain ⟨v, p2, e, hv⟩ := draw_lit p1 3 (by decide) (z := 3) rfl
  rw [e]
  simp only [bs]
  rw [show (2 : Int) + (v : Int) = ((2 + v : Nat) : Int) by omega]
  obtain ⟨ns, p3, e, nd, hs⟩ := names_eq p2 (many := 2 + v) (by omega)
  rw [e]
  simp only [bs]
  obtain ⟨l, p4, e, hL, hkl, hl4⟩ := part_drawn hM.ne (ns := ns) (by omega) p3 4 (by decide) (by decide) (mi := 4) rfl
  rw [e]
  simp only [bs]
  obtain ⟨r0, p5, e, hR0, hkr0, _⟩ := part_drawn hM.ne (ns := ns) (by omega) p4 7 (by decide) (by decide) (mi := 7) rfl
  rw [e]
  simp only [bs]
  obtain ⟨hl1, hl2, hl3⟩ := hl4 (by decide)
  rw [made_eq, made_eq]
  simp only [bs]
  obtain ⟨r, er, hR, hkr, hr2⟩ : ∃ r : PT, (bif (decide (r0.1 = ("twin" : Str))) || ((decide (r0.1 = ("raise" : Str))) && (decide (l.1 = ("bad" : Str)))) then some (l, sdPt l) else some (r0, sdPt r0)) = some (r, sdPt r) ∧ PtOk ms.length ns r ∧ r.1 ∈ K7 ∧ r.1 ≠ ("twin" : Str) := by
    cases hc : ((decide (r0.1 = ("twin" : Str))) || ((decide (r0.1 = ("raise" : Str))) && (decide (l.1 = ("bad" : Str))))) with
    | true => exact ⟨l, rfl, hL, hkl, hl2⟩
    | false =>
      refine ⟨r0, rfl, hR0, hkr0, fun h => ?_⟩
      rw [decide_eq_true h] at hc
      cases hc
  rw [er]
  simp only [bs]
  obtain ⟨w, p6, e, hw⟩ := draw_lit p5 2 (by decide) (z := 2) rfl
  rw [e]
  simp only [bs]
  have ho := obj_of hl1 hl3
  generalize hme : ((w : Int) == 1) = meets
  have turn : ∀ {d : List (Str × Int)}, Full ms.length ns d → (∃ X, m__law_pair_due (nts ms) l r meets d = some (encO X) ∧ m__law_pair_got (jn meets (sdPt l) (sdPt r)) o d = some (encO X)) ∧ (∃ X, m__law_pair_got (sdPt l) o d = some (encO X)) ∧ ∃ X, m__law_pair_got (sdPt r) o d = some (encO X) := fun F =>
    ⟨both_eq hM (by omega) hO ez hz eg em et F nd (by omega) hL hR hkl hkr hl1 hl2 hr2 meets, one_some (by omega) hO ez em F nd (by omega) hL hl2 hkl, one_some (by omega) hO ez em F nd (by omega) hR hr2 hkr⟩
  clear hme
  have two : rngM 0 2 = some (tab 2 fun i => (i : Int)) := rngM0 (n := 2) (by decide)
  have main : ∀ (wh : m_JoinSide ⊕ m_MeetSide) (ot : Sd), (Sum.elim (fun y : m_JoinSide => some (Sd.join y.left y.right)) (fun y : m_MeetSide => some (Sd.meet y.left y.right)) wh) = some (jn meets (sdPt l) (sdPt r)) → ot = jn meets (sdPt l) (sdPt r) → (Sum.elim (fun y : m_JoinSide => some y.left) (fun y : m_MeetSide => some y.left) wh) = some (sdPt l) → (Sum.elim (fun y : m_JoinSide => some y.right) (fun y : m_MeetSide => some y.right) wh) = some (sdPt r) →
      ∃ s', forL (m_law_b1 (ns, p3) (ms.length : Int) (nts ms, p1) (l, p4) (r, sdPt r) meets (ot, wh) o (sdPt l)) (tab 2 fun i => (i : Int)) p6 = some (.inl s') := fun wh ot hw ho2 hwl hwr => by
    obtain ⟨s2, e, _⟩ := forL_keep (body := m_law_b1 (ns, p3) (ms.length : Int) (nts ms, p1) (l, p4) (r, sdPt r) meets (ot, wh) o (sdPt l)) (xs := tab 2 fun i => (i : Int)) (s := p6) (I := fun _ => True) trivial (fun x _ s _ => by
      unfold m_law_b1
      simp only [Option.bind_eq_bind, bs]
      obtain ⟨p5, d, e, F⟩ := table_loop (n := ms.length) (body := m_law_b2 (ms.length : Int)) (fun x s hs => by
        unfold m_law_b2
        simp only [Option.bind_eq_bind, bs]
        obtain ⟨k, q, e, hk⟩ := draw_eq s.1 hM.ne
        rw [e]
        simp only [bs]
        rw [putMM_ok (by omega)]
        exact ⟨k, q, hk, rfl⟩) ns (s, []) (by simpa using nd) (by simp; omega) (fun q hq => by cases hq)
      have F : Full ms.length ns d := F
      rw [e]
      simp only [bs]
      obtain ⟨⟨X, e1, e2⟩, ⟨Y, e3⟩, ⟨Z, e4⟩⟩ := turn F
      rw [e1]
      simp only [bs]
      rw [hw, hwl, hwr, ho2]
      simp only [bs]
      rw [e2, e3, e4]
      simp only [bs, enc_self, Bool.not_true, orF, cond_false]
      exact ⟨_, rfl, trivial⟩)
    exact ⟨s2, e⟩
  cases meets with
  | true =>
    simp only [cond_true]
    rw [ho]
    simp only [cond_true, bs, m_Side___and__, m_PairSide___init___MeetSide, Option.bind_eq_bind]
    simp only [bs, Sum.elim_inr, orF, Bool.not_true, cond_false, BEq.rfl]
    simp only [show ((true : Bool) == true) = true from rfl, show ((false : Bool) == true) = false from rfl, Bool.not_true, orF, bs, cond_false]
    rw [two]
    simp only [bs]
    obtain ⟨s', e'⟩ := main (.inr ⟨sdPt l, sdPt r⟩) (.meet (sdPt l) (sdPt r)) rfl rfl rfl rfl
    rw [e']
    rfl
  | false =>
    simp only [cond_false]
    rw [ho]
    simp only [cond_true, bs, m_Side___or__, m_PairSide___init___JoinSide, Option.bind_eq_bind]
    simp only [bs, Sum.elim_inl, orF, Bool.not_true, cond_false, BEq.rfl]
    simp only [show ((true : Bool) == false) = false from rfl, show ((false : Bool) == false) = true from rfl, Bool.not_true, orF, bs, cond_false]
    rw [two]
    simp only [bs]
    obtain ⟨s', e'⟩ := main (.inl ⟨sdPt l, sdPt r⟩) (.join (sdPt l) (sdPt r)) rfl rfl rfl rfl
    rw [e']
    rfl
end My

set_option maxHeartbeats 0
namespace My
open PySem PySem.Spec PyProof.Rows L2 Sim
theorem ob_eq (s : PySem.W.SharedT) : ob s = hk.obs s.abs := obsUG_eq (HandSHeadRun.getT_eq s)
section
open PySem.W PySem.Calls HandSHeadRun
end
theorem glo_law (K : PySem.W.Frag) (mg : Str → Option Value) (T : Tx K mg) : mg "law" = some (.ref (He.ga K "law")) := T.glo 47 rfl
end My
open PySem PySem.W PySem.Calls PyProof.Rows
theorem PySem.Challenge.cw_askedpoints_k16_joined_and_met_sides_holds : PySem.Challenge.rw_askedpoints_k16_joined_and_met_sides.Holds := by
  w_on; o_law
  refine HandSHeadRun.head_any (r := OpenLaw.row PySem.Challenge.rw_askedpoints_k16_joined_and_met_sides) (q := view (OpenLaw.row PySem.Challenge.rw_askedpoints_k16_joined_and_met_sides).prog [54]) (H := My.hk) (ob := My.ob) (M := 12000) (loose := My.loose) (d := HandSHeadRun.topDef (OpenLaw.row PySem.Challenge.rw_askedpoints_k16_joined_and_met_sides).prog 54) (kwd := []) My.ob_eq
    (by kernel_rfl) (fun s => by kernel_rfl) My.run (by kernel_rfl) (by kernel_rfl) (by kernel_rfl) (by rfl) (by first | assumption | decide +kernel) (by decide +kernel) ⟨rfl, rfl, rfl, rfl, rfl, by decide +kernel⟩ ?hw ?hc
  case hw => w_witness2
  case hc =>
    refine LamX.walk_ofTsE (l := PySem.Challenge.rw_askedpoints_k16_joined_and_met_sides) (n := 63) (k := 64) (x := "_law_script") (CX := fun _ => L2.CX0) rfl (by decide) (by kernel_rfl) ⟨rfl, by decide, by decide⟩ ?F (fun _ _ _ _ _ z => z)
    intro w mg fa h Y G hmg0
    obtain ⟨K, KX, c⟩ := Y
    have T : My.Tx K mg := Sim.TxZ.mk' KX G c.s
    have e : (HandSHeadRun.topDef (OpenLaw.row PySem.Challenge.rw_askedpoints_k16_joined_and_met_sides).prog 54).name = ("law" : PySem.Str) := by kernel_rfl
    rw [e, My.glo_law K mg T] at hmg0
    cases hmg0
    obtain ⟨fd, F, hF⟩ := My.ok_law (w := w) T
    exact ⟨K, KX, Sim.lawT KX c (fun s u => F.bindsA (ps := ["_law_script"]) (fun kV doc pm an cdv ct us hl => by (cases us with | nil => cases hl | cons a t => cases t with | nil => rfl | cons b t => cases hl)) s [u] rfl) My.law_true (fun base Y => hF base Y)⟩
