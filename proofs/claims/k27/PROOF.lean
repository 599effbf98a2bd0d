import PyProof.Rows.All
import Wide.All
import OpenK.AllK
import Wide.FinOn
import HandS.ForMost
import HandS.Evl
import HandS.SortInts
import HandS.Wide
import HandS.More
import HandS.IsInst
import HandS.Defaults
import HandS.HeadHook1
import HandS.HeadHook2
import KE.DataEq
import HandS.HeadHook3
import HandS.Exc
import HandS.Conv
import KE.KSuper
import KE.KExcSuper
import HandS.ExcInit
import HandS.Nested
import KE.KExcInit
import HandS.ExcField
import HandS.ExcIs
import HandS.ExcOwn
import HandS.TryMany
import HandS.CallSlots
import HandS.Property
import HandS.Style
import HandS.ClsMeth
import HandS.IterNext
import HandS.IterVal
import HandS.OwnIter
import KE.KOwnIter
import HandS.Slots
import HandS.SlotsOwn
import HandS.DictComp
import PyProof.StrBlock2
import HandS.Text
import HandS.FStr
import HandS.Zip
import KE.KCallOwn
import HandS.CallLocal
import HandS.Finally
import KE.KLam
import HandS.NestedK
import HandS.Lambda
import KE.KNestM
import HandS.EndTab
import HandS.HeadWalk
import HandS.HeadHook4
import KE.KOpsOwn
import HandS.Iter
import HandS.Walk
import PyProof.EqAt
import KE.KEqDict
import HandS.OwnEq
import PyProof.ListRange
import HandS.RevTup
import HandS.Rev
import KE.KDictPairs
import HandS.Dict
import HandS.Comp
import HandS.GenList
import HandS.MakeKwOnly
import PyProof.InstEq
import HandS.NamedTupSort
import KE.KStateDown
import Lean
import HandS.WordsExc
import HandS.Head0
import HandS.Head1
import HandS.Head2
import HandS.HeadEnd
import KE.KxLen
import PySem.Challenge.RW_askedpoints_k27_parting_tables
set_option Elab.async false
set_option linter.all false
set_option maxRecDepth 100000
section
/-! Sim: what a reading does, told by plain Lean data (mirrors). -/
namespace Sim
open PySem L2 Evl

/-! ### heaps: the data heap G below the heap H -/
structure Up (G H G2 H2 : Hp) : Prop where
  gg : Ex G G2
  gh : Ex G2 H2
  hh : Ex H H2
  nw : ∀ a, H a ≠ none → G a = none → G2 a = none
theorem Up.refl {G H : Hp} (e : Ex G H) : Up G H G H := ⟨Ex.refl _, e, Ex.refl _, fun _ _ h => h⟩
theorem Up.trans {G H G1 H1 G2 H2 : Hp} (a : Up G H G1 H1) (b : Up G1 H1 G2 H2) : Up G H G2 H2 :=
  ⟨a.gg.trans b.gg, b.gh, a.hh.trans b.hh, fun x h1 h2 => b.nw x (fun z => h1 (by
    cases q : H x with
    | none => rfl
    | some o => rw [a.hh x o q] at z; cases z)) (a.nw x h1 h2)⟩
/-- nothing new is data -/
theorem Up.same {G H H2 : Hp} (e : Ex G H) (h : Ex H H2) : Up G H G H2 := ⟨Ex.refl _, e.trans h, h, fun _ _ q => q⟩
theorem Up.lift {G Gw H G2 H2 : Hp} (u : Up G H G2 H2) (e1 : Ex G Gw) (e2 : Ex Gw H) : ∃ G3, Up Gw H G3 H2 ∧ Ex G2 G3 := by
  refine ⟨fun a => match H a with | none => G2 a | some _ => Gw a, ⟨fun a o h => ?_, fun a o h => ?_, u.hh, fun a h1 h2 => ?_⟩, fun a o h => ?_⟩
  · show (match H a with | none => G2 a | some _ => Gw a) = some o
    rw [e2 a o h]; exact h
  · have h' : (match H a with | none => G2 a | some _ => Gw a) = some o := h
    cases q : H a with
    | none => rw [q] at h'; exact u.gh a o h'
    | some o' =>
      rw [q] at h'
      exact u.hh a o (e2 a o h')
  · show (match H a with | none => G2 a | some _ => Gw a) = none
    cases q : H a with
    | none => exact absurd q h1
    | some o' => exact h2
  · show (match H a with | none => G2 a | some _ => Gw a) = some o
    cases q : H a with
    | none => exact h
    | some o' =>
      show Gw a = some o
      cases r : G a with
      | none => rw [u.nw a (by rw [q]; simp) r] at h; cases h
      | some o2 =>
        have := u.gg a o2 r
        rw [h] at this
        cases this
        exact e1 a _ r
/-! ### data as it stands in a heap -/
structure Rep (α : Type) where
  r : Hp → V → α → Prop
  mono : ∀ {H H' : Hp} {v : V} {x : α}, Ex H H' → r H v x → r H' v x
/-- told by the value alone -/
def Rep.Sc {α : Type} (R : Rep α) : Prop := ∀ {H H' : Hp} {v : V} {x : α}, R.r H v x → R.r H' v x

def rI : Rep Int := ⟨fun _ v x => v = .int x, fun _ h => h⟩
def rB : Rep Bool := ⟨fun _ v x => v = .bl x, fun _ h => h⟩
def rS : Rep Str := ⟨fun _ v x => v = .str x, fun _ h => h⟩
def rA : Rep Addr := ⟨fun _ v a => v = .ref a, fun _ h => h⟩
def rL {α : Type} (R : Rep α) : Rep (List α) := ⟨fun H v xs => ∃ a vs, v = .ref a ∧ H a = some (.lst vs) ∧ Paired (R.r H) vs xs,
  fun e ⟨a, vs, h1, h2, h3⟩ => ⟨a, vs, h1, e a _ h2, Paired.mapP h3 fun _ _ => R.mono e⟩⟩
def rP {α β : Type} (R : Rep α) (S : Rep β) : Rep (α × β) := ⟨fun H v p => ∃ a x y, v = .ref a ∧ H a = some (.tup [x, y]) ∧ R.r H x p.1 ∧ S.r H y p.2,
  fun e ⟨a, x, y, h1, h2, h3, h4⟩ => ⟨a, x, y, h1, e a _ h2, R.mono e h3, S.mono e h4⟩⟩
def rO {α : Type} (R : Rep α) : Rep (Option α) := ⟨fun H v o => match o with | none => v = .non | some x => R.r H v x,
  fun {H H' v o} e h => by cases o with | none => exact h | some x => exact R.mono e h⟩

/-! ### mirrors that may lack an answer -/
/-! ### expressions -/
/-- te reads as m: the data heap is G, W is known to stand as well (cells that are only read) -/
def E {α : Type} (te : TE) (σ : L2.St) (G W : Hp) (R : Rep α) (m : Option α) : Prop :=
  ∀ x, m = some x → ∀ H, Ex G H → Ex W H → ∀ Q : VK, (∀ v H2 G2, Up G H G2 H2 → R.r G2 v x → Q v H2) → te σ H Q
def ET (tt : TT) (σ : L2.St) (W : Hp) (m : Option Bool) : Prop :=
  ∀ b, m = some b → ∀ H, Ex W H → ∀ Q : Bool → Hp → Prop, (∀ H2, Ex H H2 → Q b H2) → tt σ H Q
structure AR (ι : Type) where
  r : Hp → List V → ι → Prop
  mono : ∀ {H H' : Hp} {v : List V} {x : ι}, Ex H H' → r H v x → r H' v x
def EA {ι : Type} (ta : TA) (σ : L2.St) (G W : Hp) (A : AR ι) (m : Option ι) : Prop :=
  ∀ x, m = some x → ∀ H, Ex G H → Ex W H → ∀ Q : List V → Hp → Prop, (∀ vs H2 G2, Up G H G2 H2 → A.r G2 vs x → Q vs H2) → ta σ H Q
section
variable {K : PySem.W.Frag} {σ : L2.St} {G H G' W W' : Hp} {ta tb te : TE} {t u : TT} {α β γ ι : Type} {R : Rep α} {S : Rep β} {T : Rep γ} {A : AR ι}
theorem E.mono {m : Option α} (e : Ex G G') (e' : Ex W W') (h : E te σ G W R m) : E te σ G' W' R m := fun x hx H e1 e2 Q q =>
  h x hx H (e.trans e1) (e'.trans e2) Q fun v H2 G2 up r => by
    obtain ⟨G3, u3, e3⟩ := up.lift e e1
    exact q v H2 G3 u3 (R.mono e3 r)
theorem ET.mono {m : Option Bool} (e : Ex W W') (h : ET t σ W m) : ET t σ W' m := fun x hx H e1 Q q => h x hx H (e.trans e1) Q q
theorem EA.mono {ta : TA} {m : Option ι} (e : Ex G G') (e' : Ex W W') (h : EA ta σ G W A m) : EA ta σ G' W' A m := fun x hx H e1 e2 Q q =>
  h x hx H (e.trans e1) (e'.trans e2) Q fun v H2 G2 up r => by
    obtain ⟨G3, u3, e3⟩ := up.lift e e1
    exact q v H2 G3 u3 (A.mono e3 r)
/-- a value that hangs on no heap -/
theorem E.s {m : Option α} (sc : R.Sc) (h : E te σ W W R m) : E te σ G W R m := fun x hx H e1 e2 Q q =>
  h x hx H e2 e2 Q fun v H2 G2 up r => q v H2 G (Up.same e1 up.hh) (sc r)
end
end Sim

namespace Sim
open PySem L2 Evl

/-! ### cells: objects that change -/
structure CP where
  p : Hp → HO → Prop
  mono : ∀ {G G' : Hp} {o : HO}, Ex G G' → p G o → p G' o
def cL {α : Type} (R : Rep α) (xs : List α) : CP := ⟨fun G o => ∃ vs, o = .lst vs ∧ Paired (R.r G) vs xs, fun e ⟨vs, h1, h2⟩ => ⟨vs, h1, Paired.mapP h2 fun _ _ => R.mono e⟩⟩
abbrev Cs := List (Addr × CP)
structure Wd (G H : Hp) (cs : Cs) : Prop where
  ex : Ex G H
  at_ : ∀ c ∈ cs, G c.1 = none ∧ ∃ o, H c.1 = some o ∧ c.2.p G o
  nd : (cs.map (·.1)).Nodup
theorem Wd.nil {G H : Hp} (e : Ex G H) : Wd G H [] := ⟨e, fun _ h => absurd h List.not_mem_nil, List.nodup_nil⟩
section
variable {G H G2 H2 : Hp} {cs : Cs} {l : Addr} {cp cp' : CP}
theorem Wd.head (w : Wd G H ((l, cp) :: cs)) : G l = none ∧ ∃ o, H l = some o ∧ cp.p G o := w.at_ _ (List.mem_cons_self ..)
theorem Wd.up (w : Wd G H cs) (u : Up G H G2 H2) : Wd G2 H2 cs := ⟨u.gh, fun c h => by
  obtain ⟨h1, o, h2, h3⟩ := w.at_ c h
  exact ⟨u.nw _ (by rw [h2]; simp) h1, o, u.hh _ _ h2, c.2.mono u.gg h3⟩, w.nd⟩
theorem Wd.sc (w : Wd G H cs) (u : Ex H H2) : Wd G H2 cs := w.up (Up.same w.ex u)
/-- a new cell is laid -/
theorem Wd.new (w : Wd G H cs) {o : HO} (n : H l = none) (h : cp.p G o) : Wd G (upd H l o) ((l, cp) :: cs) := by
  refine ⟨w.ex.mut (fresh_back w.ex n), fun c hc => ?_, ?_⟩
  · rcases List.mem_cons.mp hc with hc | hc
    · subst hc; exact ⟨fresh_back w.ex n, o, upd_same, h⟩
    · obtain ⟨h1, o', h2, h3⟩ := w.at_ c hc
      exact ⟨h1, o', by rw [upd_ne (ne_of_none h2 n)]; exact h2, h3⟩
  · show (l :: cs.map (·.1)).Nodup
    refine List.nodup_cons.mpr ⟨fun hm => ?_, w.nd⟩
    obtain ⟨c, hc, e⟩ := List.mem_map.mp hm
    obtain ⟨_, o', h2, _⟩ := w.at_ c hc
    exact ne_of_none h2 n e
end
/-! ### promises -/
/-- cells change -/
structure Fr (G H G2 H2 : Hp) (ls : List Addr) : Prop where
  gg : Ex G G2
  fr : ∀ a o, H a = some o → a ∉ ls → H2 a = some o
  nw : ∀ a, H a ≠ none → G a = none → G2 a = none
  st : ∀ a, H a ≠ none → H2 a ≠ none
theorem Fr.refl {G H : Hp} {ls : List Addr} : Fr G H G H ls := ⟨Ex.refl _, fun _ _ h _ => h, fun _ _ h => h, fun _ h => h⟩
theorem some_ne {H H2 : Hp} (e : Ex H H2) {a : Addr} (h : H a ≠ none) : H2 a ≠ none := by
  cases q : H a with
  | none => exact absurd q h
  | some o => rw [e a o q]; simp
theorem Up.fr {G H G2 H2 : Hp} {ls : List Addr} (u : Up G H G2 H2) : Fr G H G2 H2 ls := ⟨u.gg, fun a o h _ => u.hh a o h, u.nw, fun a h => some_ne u.hh h⟩
theorem Fr.trans {G H G1 H1 G2 H2 : Hp} {ls : List Addr} (a : Fr G H G1 H1 ls) (b : Fr G1 H1 G2 H2 ls) : Fr G H G2 H2 ls :=
  ⟨a.gg.trans b.gg, fun x o h1 h2 => b.fr x o (a.fr x o h1 h2) h2, fun x h1 h2 => b.nw x (a.st x h1) (a.nw x h1 h2), fun x h => b.st x (a.st x h)⟩
end Sim

namespace Sim
open PySem L2 Evl
section
variable {K : PySem.W.Frag} {σ : L2.St} {G H G' W W' : Hp} {ta tb te tc : TE} {t u : TT} {α β γ ι κ : Type} {R : Rep α} {S : Rep β} {T : Rep γ} {A : AR ι}

/-! ### mirrors of operations that may lack an answer -/
/-! ### and, or, not, if -/
/-! ### arguments, calls -/
/-- an expression that makes a new list -/
def EL (te : TE) (σ : L2.St) (G W : Hp) (R : Rep α) (m : Option (List α)) : Prop :=
  ∀ xs, m = some xs → ∀ H, Ex G H → Ex W H → ∀ Q : VK, (∀ p H2 G2, H p = none → Up G H G2 H2 → Wd G2 H2 [(p, cL R xs)] → Q (.ref p) H2) → te σ H Q
theorem Up.frz {G H G1 H1 G2 : Hp} {p : Addr} (hp : H p = none) (u : Up G H G1 H1) (e : Ex G1 G2) (e2 : Ex G2 H1) (n : ∀ a, a ≠ p → G1 a = none → G2 a = none) : Up G H G2 H1 :=
  ⟨u.gg.trans e, e2, u.hh, fun a h1 h2 => n a (fun z => by subst z; exact h1 hp) (u.nw a h1 h2)⟩
theorem frz1 {G H G1 H1 : Hp} {p : Addr} {xs : List α} (hp : H p = none) (u : Up G H G1 H1) (w : Wd G1 H1 [(p, cL R xs)]) : ∃ G2, Up G H G2 H1 ∧ (rL R).r G2 (.ref p) xs := by
  obtain ⟨h1, o, h2, vs, rfl, h3⟩ := w.head
  refine ⟨upd G1 p (.lst vs), u.frz hp (Ex.new h1) (fun a u' e => ?_) (fun a ne h => by rw [upd_ne ne]; exact h), p, vs, rfl, upd_same, Paired.mapP h3 fun _ _ => R.mono (Ex.new h1)⟩
  by_cases q : a = p
  · subst q; rw [upd_same] at e; cases e; exact h2
  · rw [upd_ne q] at e; exact w.ex a u' e
theorem EL.e {m : Option (List α)} (h : EL te σ G W R m) : E te σ G W (rL R) m := fun x hx H e e' Q q => h x hx H e e' Q fun p H2 G2 hp u w => by
  obtain ⟨G3, u3, r3⟩ := frz1 hp u w
  exact q _ H2 G3 u3 r3
theorem Wd.lift {Gw G2 : Hp} {H : Hp} {cs : Cs} (w : Wd G2 H cs) (e : Ex G2 Gw) (e2 : Ex Gw H) (n : ∀ c ∈ cs, Gw c.1 = none) : Wd Gw H cs := ⟨e2, fun c h => by
  obtain ⟨h1, o, h2, h3⟩ := w.at_ c h
  exact ⟨n c h, o, h2, c.2.mono e h3⟩, w.nd⟩
theorem Up.lift' {G Gw H G2 H2 : Hp} (u : Up G H G2 H2) (e1 : Ex G Gw) (e2 : Ex Gw H) : ∃ G3, Up Gw H G3 H2 ∧ Ex G2 G3 ∧ ∀ a, H a = none → G2 a = none → G3 a = none := by
  refine ⟨fun a => match H a with | none => G2 a | some _ => Gw a, ⟨fun a o h => ?_, fun a o h => ?_, u.hh, fun a h1 h2 => ?_⟩, fun a o h => ?_, fun a h1 h2 => ?_⟩
  · show (match H a with | none => G2 a | some _ => Gw a) = some o
    rw [e2 a o h]; exact h
  · have h' : (match H a with | none => G2 a | some _ => Gw a) = some o := h
    cases q : H a with
    | none => rw [q] at h'; exact u.gh a o h'
    | some o' =>
      rw [q] at h'
      exact u.hh a o (e2 a o h')
  · show (match H a with | none => G2 a | some _ => Gw a) = none
    cases q : H a with
    | none => exact absurd q h1
    | some o' => exact h2
  · show (match H a with | none => G2 a | some _ => Gw a) = some o
    cases q : H a with
    | none => exact h
    | some o' =>
      show Gw a = some o
      cases r : G a with
      | none => rw [u.nw a (by rw [q]; simp) r] at h; cases h
      | some o2 =>
        have := u.gg a o2 r
        rw [h] at this
        cases this
        exact e1 a _ r
  · show (match H a with | none => G2 a | some _ => Gw a) = none
    rw [h1]; exact h2
theorem EL.mono {m : Option (List α)} (e : Ex G G') (e' : Ex W W') (h : EL te σ G W R m) : EL te σ G' W' R m := fun x hx H e1 e2 Q q => h x hx H (e.trans e1) (e'.trans e2) Q fun p H2 G2 hp u w => by
  obtain ⟨G3, u3, e3, n3⟩ := u.lift' e e1
  exact q p H2 G3 hp u3 (w.lift e3 u3.gh fun c hc => by
    cases List.mem_singleton.mp hc
    exact n3 p hp w.head.1)
/-! ### built-ins -/
/-! ### displays -/
end
end Sim

namespace Sim
open PySem L2 Evl

/-! ### mirrors of loops -/
section
variable {α σ ρ : Type}
end
/-! ### the world of a def -/
structure Wo (G0 H0 : Hp) (ls : List Addr) (G H : Hp) (cs : Cs) : Prop where
  w : Wd G H cs
  f : Fr G0 H0 G H ls
  lo : ∀ c ∈ cs, c.1 ∈ ls ∨ H0 c.1 = none
section
variable {K : PySem.W.Frag} {σ : L2.St} {G0 H0 G H G2 H2 : Hp} {ls : List Addr} {cs : Cs} {l : Addr} {cp cp' : CP} {ta tb te tc : TE} {t u : TT} {α β γ ι κ : Type} {R : Rep α} {S : Rep β} {T : Rep γ} {A : AR ι}
theorem Wo.ex (w : Wo G0 H0 ls G H cs) : Ex G H := w.w.ex
theorem Wo.up (w : Wo G0 H0 ls G H cs) (u : Up G H G2 H2) : Wo G0 H0 ls G2 H2 cs := ⟨w.w.up u, w.f.trans u.fr, w.lo⟩
theorem Wo.sc (w : Wo G0 H0 ls G H cs) (u : Ex H H2) : Wo G0 H0 ls G H2 cs := w.up (Up.same w.ex u)
/-- the i-th cell -/
theorem Wd.getAt {i : Nat} (w : Wd G H cs) (h : cs[i]? = some (l, cp)) : G l = none ∧ ∃ o, H l = some o ∧ cp.p G o := w.at_ _ (List.mem_of_getElem? h)
theorem nodup_ix {as : List Addr} (nd : as.Nodup) {i j : Nat} {x : Addr} (h1 : as[i]? = some x) (h2 : as[j]? = some x) : i = j := by
  obtain ⟨a1, a2⟩ := List.getElem?_eq_some_iff.mp h1
  obtain ⟨b1, b2⟩ := List.getElem?_eq_some_iff.mp h2
  have p := List.pairwise_iff_getElem.mp nd
  rcases Nat.lt_trichotomy i j with q | q | q
  · exact absurd (a2.trans b2.symm) (p i j a1 b1 q)
  · exact q
  · exact absurd (b2.trans a2.symm) (p j i b1 a1 q)
theorem Fr.put (f : Fr G0 H0 G H ls) {o : HO} (h : l ∈ ls ∨ H0 l = none) : Fr G0 H0 G (upd H l o) ls := ⟨f.gg, fun a u h1 h2 => by
  have ne : a ≠ l := fun z => by
    subst z
    rcases h with h | h
    · exact h2 h
    · rw [h] at h1; cases h1
  rw [upd_ne ne]; exact f.fr a u h1 h2, f.nw, fun a h1 => by
  by_cases q : a = l
  · subst q; rw [upd_same]; simp
  · rw [upd_ne q]; exact f.st a h1⟩
theorem Wo.new (w : Wo G0 H0 ls G H cs) {o : HO} (n : H l = none) (h : cp.p G o) : Wo G0 H0 ls G (upd H l o) ((l, cp) :: cs) := by
  have n0 : H0 l = none := by
    cases q : H0 l with
    | none => rfl
    | some o => exact absurd n (w.f.st l (by rw [q]; simp))
  exact ⟨w.w.new n h, w.f.put (.inr n0), fun c hc => by
    rcases List.mem_cons.mp hc with hc | hc
    · subst hc; exact .inr n0
    · exact w.lo c hc⟩
end
end Sim

namespace Sim
open PySem L2 Evl
section
variable {K : PySem.W.Frag} {σ : L2.St} {G0 H0 G H G2 H2 W : Hp} {ls : List Addr} {cs : Cs} {l : Addr} {cp cp' : CP} {ta tb te tc : TE} {t u : TT} {α β γ ι κ : Type} {R : Rep α} {S : Rep β} {T : Rep γ} {A : AR ι} {D : Ends} {tu tv tz : TS} {g : TG}

/-! ### expressions in the world -/
/-! ### a def that changes one cell -/
/-! ### readings opened -/
/-! ### statements -/
/-! ### list cells, by methods -/
/-! ### loops -/
end
end Sim

namespace Sim
open PySem L2 Evl
section
variable {α β : Type}
end
section
variable {K : PySem.W.Frag} {σ : L2.St} {G H W : Hp} {te tl : TE} {tt : TT} {α β γ : Type} {R : Rep α} {S : Rep β} {T : Rep γ}
end
end Sim

namespace Sim
open PySem L2 Evl
section
variable {K : PySem.W.Frag} {σ : L2.St} {G0 H0 G H G2 H2 W : Hp} {ls : List Addr} {cs : Cs} {l : Addr} {cp cp' : CP} {ta tb te tc : TE} {t u : TT} {α β γ ι κ : Type} {R : Rep α} {S : Rep β} {T : Rep γ} {A : AR ι} {D : Ends} {tu tv tz : TS} {g : TG}
theorem E.is {m : Option α} {x : α} (h : E te σ G W R m) (hm : m = some x) : E te σ G W R (some x) := by rw [← hm]; exact h
theorem ET.is {m : Option Bool} {x : Bool} (h : ET t σ W m) (hm : m = some x) : ET t σ W (some x) := by rw [← hm]; exact h
theorem EL.is {m : Option (List α)} {x : List α} (h : EL te σ G W R m) (hm : m = some x) : EL te σ G W R (some x) := by rw [← hm]; exact h
/-- items of one kind -/
def EAL (n : Nat) (ta : TA) (σ : L2.St) (G W : Hp) (R : Rep α) (m : Option (List α)) : Prop :=
  ∀ xs, m = some xs → xs.length = n ∧ ∀ H, Ex G H → Ex W H → ∀ Q : List V → Hp → Prop, (∀ vs H2 G2, Up G H G2 H2 → Paired (R.r G2) vs xs → Q vs H2) → ta σ H Q
theorem EAL.mono {n : Nat} {G' W' : Hp} {ta : TA} {m : Option (List α)} (e : Ex G G') (e' : Ex W W') (h : EAL n ta σ G W R m) : EAL n ta σ G' W' R m := fun x hx => ⟨(h x hx).1, fun H e1 e2 Q q =>
  (h x hx).2 H (e.trans e1) (e'.trans e2) Q fun v H2 G2 up r => by
    obtain ⟨G3, u3, e3⟩ := up.lift e e1
    exact q v H2 G3 u3 (Paired.mapP r fun _ _ => R.mono e3)⟩
/-! ### cuts, tests opened -/
end
end Sim

namespace Sim
open PySem L2 Evl
section
variable {K : PySem.W.Frag} {σ : L2.St} {G0 H0 G H G2 H2 W : Hp} {ls : List Addr} {cs : Cs} {l : Addr} {cp cp' : CP} {ta tb te tc : TE} {t u : TT} {α β γ ι κ : Type} {R : Rep α} {S : Rep β} {T : Rep γ} {A : AR ι} {D : Ends} {tu tv tz : TS} {g : TG}
theorem cl_sc {xs : List α} (h : R.Sc) {o : HO} (q : (cL R xs).p G o) : (cL R xs).p G2 o := by
  obtain ⟨vs, e, p⟩ := q
  exact ⟨vs, e, Paired.mapP p fun _ _ r => h r⟩
theorem EL.s {m : Option (List α)} (sc : R.Sc) (h : EL te σ W W R m) : EL te σ G W R m := fun xs hx H e e' Q q => h xs hx H e' e' Q fun p H2 G2 hp u w => by
  obtain ⟨h1, o, h2, h3⟩ := w.head
  exact q p H2 G hp (Up.same e u.hh) ⟨e.trans u.hh, fun c hc => by
    rw [List.mem_singleton.mp hc]
    exact ⟨fresh_back e hp, o, h2, cl_sc sc h3⟩, List.nodup_cons.mpr ⟨List.not_mem_nil, List.nodup_nil⟩⟩
end
/-! ### the text's facts -/
structure Tx (fa : List He.Fa) (fn : List He.DefD) (K : PySem.W.Frag) (mg : Str → Option Value) : Prop where
  ex : ∃ h : Heap, K.In h ∧ h.Ns mainGlobals mg
  c : He.SaysD fa fn K
section
variable {fa : List He.Fa} {fn : List He.DefD} {K : PySem.W.Frag} {mg : Str → Option Value} {P : Program} {w : World} {base : Heap}
theorem Tx.glo (T : Tx fa fn K mg) (i : Nat) {x : Str} (h : fa[i]? = some (.glo x)) : mg x = some (.ref (He.ga K x)) := by
  obtain ⟨h', X, G⟩ := T.ex
  exact He.glo_ok X G (T.c.fact i h)
theorem Tx.free (T : Tx fa fn K mg) (i : Nat) {x : Str} (h : fa[i]? = some (.free x)) : mg x = none := by
  obtain ⟨h', X, G⟩ := T.ex
  exact He.free_ok X G (T.c.fact i h)
theorem Tx.cls (T : Tx fa fn K mg) (i : Nat) {x : Str} (h : fa[i]? = some (.cls x)) : Cls K (He.ga K x) := He.cls_ok (T.c.fact i h)
theorem Tx.noat (T : Tx fa fn K mg) (i : Nat) {x f : Str} (h : fa[i]? = some (.noat x f)) : NoAttr K (He.ga K x) f := He.noat_ok (T.c.fact i h)
theorem Tx.meth (T : Tx fa fn K mg) (i : Nat) {x m : Str} (h : fa[i]? = some (.meth x m)) : Meth K (He.ga K x) m (He.ma K (He.ga K x) m) := He.meth_ok (T.c.fact i h)
theorem Tx.mkr (T : Tx fa fn K mg) (i : Nat) {x : Str} (h : fa[i]? = some (.mkr x)) : Mk K (He.ga K x) (He.ma K (He.ga K x) "__init__") := He.mkr_ok (T.c.fact i h)
end
end Sim

namespace Sim
open PySem L2 Evl
/-! ### the hook: facts, defs, and further Bools -/
structure TxE (fa : List He.Fa) (fn : List He.DefD) (es : List (PySem.W.Frag → Bool)) (K : PySem.W.Frag) (mg : Str → Option Value) : Prop extends Tx fa fn K mg where
  x : (es.all fun e => e K) = true
/-! ### objects -/
structure Pd where
  p : Hp → V → Prop
  mono : ∀ {H H' : Hp} {v : V}, Ex H H' → p H v → p H' v
def Fl (ns : List Str) (ps : List Pd) (H : Hp) (fs : List (Str × V)) : Prop := fs.map (·.1) = ns ∧ Paired (fun v (q : Pd) => q.p H v) (fs.map (·.2)) ps
theorem Fl.mono {ns : List Str} {ps : List Pd} {H H' : Hp} {fs : List (Str × V)} (e : Ex H H') (h : Fl ns ps H fs) : Fl ns ps H' fs := ⟨h.1, Paired.mapP h.2 fun _ q => q.mono e⟩
def rObj {α : Type} (C : Addr) (ns : List Str) (fl : α → List Pd) : Rep α := ⟨fun H v x => ∃ a dx fs, v = .ref a ∧ H a = some (.ins C dx fs) ∧ Fl ns (fl x) H fs, fun e ⟨a, dx, fs, h1, h2, h3⟩ => ⟨a, dx, fs, h1, e a _ h2, h3.mono e⟩⟩
def cI (C : Addr) (ns : List Str) (ps : List Pd) : CP := ⟨fun G o => ∃ dx fs, o = .ins C dx fs ∧ Fl ns ps G fs, fun e ⟨dx, fs, h1, h2⟩ => ⟨dx, fs, h1, h2.mono e⟩⟩
theorem look_no {ns : List Str} : ∀ {fs : List (Str × V)} {f : Str}, fs.map (·.1) = ns → ns.contains f = false → fs.lookup f = none := by
  intro fs
  induction fs generalizing ns with
  | nil => intro f _ _; rfl
  | cons q fs ih =>
    intro f h1 h2
    obtain ⟨n, w⟩ := q
    subst h1
    rw [List.map_cons, List.contains_cons, Bool.or_eq_false_iff] at h2
    rw [List.lookup_cons, h2.1]
    exact ih rfl h2.2
section
variable {K : PySem.W.Frag} {σ : L2.St} {G0 H0 G H G2 H2 W : Hp} {ls : List Addr} {cs : Cs} {l C : Addr} {cp cp' : CP} {ta tb te tc to : TE} {t u : TT} {α β γ ι κ : Type} {R : Rep α} {S : Rep β} {T : Rep γ} {A : AR ι} {D : Ends} {tu tv tz : TS} {g : TG} {ns : List Str} {fl : α → List Pd}
/-! ### isinstance, the kind known -/
/-! ### == of data -/
end
end Sim

namespace Sim
open PySem L2 Evl
section
variable {K : PySem.W.Frag} {σ : L2.St} {G0 H0 G H G2 H2 W : Hp} {ls : List Addr} {cs : Cs} {l C : Addr} {cp cp' : CP} {ta tb te tc to : TE} {t u : TT} {α β γ ι κ : Type} {R : Rep α} {S : Rep β} {T : Rep γ} {A : AR ι} {D : Ends} {tu tv tz : TS} {g : TG} {ns : List Str} {fl : α → List Pd}
/-! ### a list lent to a def that only reads it -/
/-- at l, its items standing in the data heap, it itself not -/
structure Lent (G W : Hp) (l : Addr) (B : Rep κ) (ys : List κ) : Prop where
  n : G l = none
  at_ : ∃ vs, W l = some (.lst vs) ∧ Paired (B.r G) vs ys
theorem Lent.up {B : Rep κ} {ys : List κ} {G1 H1 H : Hp} (L : Lent G W l B ys) (e' : Ex W H) (u : Up G H G1 H1) : Lent G1 H1 l B ys := by
  obtain ⟨vs, h2, h3⟩ := L.at_
  exact ⟨u.nw _ (by rw [e' _ _ h2]; simp) L.n, vs, u.hh _ _ (e' _ _ h2), Paired.mapP h3 fun _ _ => B.mono u.gg⟩
theorem Lent.ne {B : Rep κ} {ys : List κ} {x : Addr} {ps : List Pd} (L : Lent G H l B ys) (w : Wd G H [(x, cI C ns ps)]) : l ∉ [x] := fun z => by
  obtain ⟨vs, h2, _⟩ := L.at_
  obtain ⟨_, o, k2, dx, fs, rfl, _⟩ := w.head
  rw [List.mem_singleton.mp z, k2] at h2
  cases h2
end
/-! ### a method by its name, with its promise -/
/-! ### data that is compared -/
section
variable {α β : Type} {R : Rep α} {S : Rep β}
end
end Sim
namespace Sim
open PySem L2 Evl
section
variable {K : PySem.W.Frag} {σ : L2.St} {G0 H0 G H G2 H2 W : Hp} {ls : List Addr} {cs : Cs} {l C : Addr} {te : TE} {α β : Type} {R : Rep α} {S : Rep β} {ns : List Str}
end
end Sim

set_option maxHeartbeats 4000000
/-! own exceptions: an __init__ whose first statement is super().__init__(text) -/
namespace Sim
open PySem PySem.Spec PyProof.Rows L2 PySem.W PySem.Calls NdefX
/-- what the written part says of such an __init__ -/
structure SupC (P : Program) (K : Frag) (mg : Str → Option Value) (C f : Addr) (fd : FuncData) (F : NF) (ps : List Str) : Prop where
  lk : ∃ oc od osl kV doc pm an ct, fd = PySem.W.fnX F.name F.qual F.params F.body F.scope F.cl .none kV doc pm an (.ref F.c) ct ∧ K.lookup f = some ⟨oc, od, .func fd, osl⟩
  cd : PySem.W.codeIn K (.ref F.c) F.qual = true
  cl : ∃ cc oc od osl, F.cl = [(("__class__" : Str), cc)] ∧ K.lookup cc = some ⟨oc, od, .cell (some (.ref C)), osl⟩
  par : ∃ ar ps', (F.params.posonlyargs ++ F.params.args).head? = some ar ∧ ps = ar.arg :: ps' ∧ F.scope.names.lookup ar.arg = some .local
  code : ∃ ccl cdd vs ccs file tf, K.lookup F.c = some ⟨ccl, cdd, .fields vs, ccs⟩ ∧ vs[2]? = some (.str file tf) ∧ ((P.main.file : Str) == file) = true
  cls : ∃ cdD, clsIn K C = some cdD
  sub : mroIn K C (.ref C) = some true
  ks : F.scope.names.lookup ("super" : Str) = some .globalImplicit
  kc : F.scope.names.lookup ("__class__" : Str) = some .free
  mg : mg "super" = none
  top : (P.main.scope.names.lookup ("super" : Str)).isSome = false
  opq : nsIn K cStatics "thirdparty.any" = some none
  sup : ks_superIn K C C "__init__" = some (some (.builtin "ValueError.__init__"))
  ve : subIn K (.ref C) (.type "ValueError") = some true
  ex : OexC K C
section
variable {CX : CXT} {P : Program} {w : World} {K : PySem.W.Frag} {mg : Str → Option Value} {base : Heap} {N ps : List Str} {F : NF} {C f : Addr} {fd : FuncData} {k : Nat} {sp : Sp} {t : Str} {rest : List Stmt} {p0 p1 p2 p3 p4 pc : Pos} {j : Nat} {pl : Sem Bool}
end
end Sim

/-! own exceptions: what the top's end says of them -/
namespace Sim
open PySem PySem.Spec PyProof.Rows L2 PySem.W PySem.Calls NdefX
def oexB (K : Frag) (C : Addr) : Bool := (match K.lookup C with
  | some ⟨.type "type", _, .cls cd, sl⟩ => (match cd.mro, sl.toList with
    | .ref C' :: bm, [_, _, _, _, some (.builtin n), _] => C' == C && n == "ValueError.__new__" && !cd.hasDel && PySem.HandSPX.refsVE bm && cd.hasDict
    | _, _ => false)
  | _ => false) && (decide (findIn K (.ref C) "__setattr__" = some (some (.builtin "object.__setattr__"))) && (decide (subIn K (.ref C) (.type "BaseException") = some true) && (decide (typeIn K (.ref C) = some (.type "type")) && keepIn K (.ref C))))
theorem oexB_ok {K : Frag} {C : Addr} (h : oexB K C = true) : OexC K C := by
  unfold oexB at h
  obtain ⟨q, h⟩ := He.ba h
  obtain ⟨h1, h⟩ := He.ba h
  obtain ⟨h2, h⟩ := He.ba h
  obtain ⟨h3, h4⟩ := He.ba h
  refine ⟨?_, of_decide_eq_true h1, of_decide_eq_true h2, of_decide_eq_true h3, h4⟩
  split at q
  · rename_i dd cd sl ho
    split at q
    · rename_i C' bm k0 k1 k2 k3 n k5 hm hs
      simp only [Bool.and_eq_true, beq_iff_eq, Bool.not_eq_true'] at q
      obtain ⟨⟨⟨⟨rfl, rfl⟩, hdel⟩, ht⟩, hdict⟩ := q
      obtain ⟨nm, bs, mro, ns, qn, hd, sn, sub, ab, col, del⟩ := cd
      dsimp only at hm hdel hdict
      subst hm hdel hdict
      have hsl : sl = #[k0, k1, k2, k3, some (.builtin "ValueError.__new__"), k5] := by
        rw [← Array.toArray_toList (xs := sl), hs]
      subst hsl
      exact ⟨nm, qn, ns, bs, bm, sn, sub, ab, col, dd, k0, k1, k2, k3, k5, ho, ht⟩
    · cases q
  · cases q
/-- an own __init__ of an exception class: what is looked at -/
abbrev FnY : Type := Option (Str × Arguments × FuncBody × Scope × Addr × List Str × Addr)
structure XcD where
  cls : Str
  qual : Str
  params : Arguments
  body : List Stmt
  scope : Scope
def xcAd (K : Frag) (x : Str) : Addr := He.ma K (He.ga K x) "__init__"
def fnY (K : Frag) (x : Str) : FnY := match K.lookup (xcAd K x) with
  | some ⟨_, _, .func fd, _⟩ => some (fd.qualname, fd.params, fd.body, fd.scope, fd.globals, fd.closure.map (·.1), fd.builtins)
  | _ => none
def XcD.val (d : XcD) : FnY := some (d.qual, d.params, .stmts d.body, d.scope, mainGlobals, ["__class__"], builtinsNs)
def XcD.fdB (K : Frag) (file : Str) (d : XcD) : Bool := match K.lookup (xcAd K d.cls) with
  | some ⟨_, _, .func fd, _⟩ => (match fd.closure with
    | [(_, cc)] => (match K.lookup cc with
      | some ⟨_, _, .cell (some (.ref D)), _⟩ => D == He.ga K d.cls
      | _ => false)
    | _ => false) && (match fd.code with
    | .ref cda => codeIn K (.ref cda) d.qual && (match K.lookup cda with
      | some ⟨_, _, .fields vs, _⟩ => (match (vs[2]? : Option Value) with
        | some (.str fl _) => fl == file
        | _ => false)
      | _ => false)
    | _ => false) && (decide (fd.name = ("__init__" : Str)) && (match fd.defaults with
    | .none => true
    | _ => false))
  | _ => false
def XcD.ok (K : Frag) (file : Str) (d : XcD) : Bool := d.fdB K file && (oexB K (He.ga K d.cls) && ((clsIn K (He.ga K d.cls)).isSome && (decide (mroIn K (He.ga K d.cls) (.ref (He.ga K d.cls)) = some true) &&
  (decide (nsIn K cStatics "thirdparty.any" = some none) && (decide (ks_superIn K (He.ga K d.cls) (He.ga K d.cls) "__init__" = some (some (.builtin "ValueError.__init__"))) && (decide (subIn K (.ref (He.ga K d.cls)) (.type "ValueError") = some true) &&
  (decide (findIn K (.ref (He.ga K d.cls)) "__init__" = some (some (.ref (xcAd K d.cls)))) && decide (typeIn K (.ref (xcAd K d.cls)) = some (.type "function")))))))))
/-- what is known of the class -/
structure XcK (P : Program) (K : Frag) (mg : Str → Option Value) (d : XcD) : Prop where
  ex : ∃ fd cc c, SupC P K mg (He.ga K d.cls) (xcAd K d.cls) fd ⟨"__init__", d.qual, d.params, d.body, d.scope, [("__class__", cc)], c⟩ ((d.params.posonlyargs ++ d.params.args).map (·.arg))
  oex : OexC K (He.ga K d.cls)
  ini : findIn K (.ref (He.ga K d.cls)) "__init__" = some (some (.ref (xcAd K d.cls)))
  ty : typeIn K (.ref (xcAd K d.cls)) = some (.type "function")
theorem XcD.known {P : Program} {K : Frag} {mg : Str → Option Value} {d : XcD} (e : fnY K d.cls = d.val) (c : d.ok K P.main.file = true) (hmg : mg "super" = none) (htop : (P.main.scope.names.lookup ("super" : Str)).isSome = false)
    (hks : d.scope.names.lookup ("super" : Str) = some .globalImplicit) (hkc : d.scope.names.lookup ("__class__" : Str) = some .free) {ar : Arg} {ars : List Arg} (hpa : d.params.posonlyargs ++ d.params.args = ar :: ars) (hka : d.scope.names.lookup ar.arg = some .local) : XcK P K mg d := by
  unfold XcD.ok at c
  obtain ⟨c0, c⟩ := He.ba c
  obtain ⟨c1, c⟩ := He.ba c
  obtain ⟨c2, c⟩ := He.ba c
  obtain ⟨c3, c⟩ := He.ba c
  obtain ⟨c4, c⟩ := He.ba c
  obtain ⟨c5, c⟩ := He.ba c
  obtain ⟨c6, c⟩ := He.ba c
  obtain ⟨c7, c8⟩ := He.ba c
  refine ⟨?_, oexB_ok c1, of_decide_eq_true c7, of_decide_eq_true c8⟩
  unfold XcD.fdB at c0
  unfold fnY at e
  cases q : K.lookup (xcAd K d.cls) with
  | none => rw [q] at c0; cases c0
  | some o =>
    obtain ⟨oc, od, dt, osl⟩ := o
    rw [q] at c0 e
    cases dt with
    | func fd =>
      obtain ⟨n1, n2, n3, n4, n5, n6, n7, n8, n9, n10, n11, n12, n13, n14, n15⟩ := fd
      have e2 : (some (n2, n3, n4, n5, n6, n7.map (·.1), n15) : FnY) = (some (d.qual, d.params, .stmts d.body, d.scope, mainGlobals, ["__class__"], builtinsNs) : FnY) := e
      simp only [Option.some.injEq, Prod.mk.injEq] at e2
      obtain ⟨h2, h3, h4, h5, h6, h7, h8⟩ := e2
      subst h2 h3 h4 h5 h6 h8
      dsimp only at c0
      obtain ⟨kab, kc⟩ := He.ba c0
      obtain ⟨kA, kB⟩ := He.ba kab
      obtain ⟨kc, kd⟩ := He.ba kc
      have kc := of_decide_eq_true kc
      subst kc
      clear kab c0
      have kd2 : n8 = Value.none := by
        cases n8 with
        | none => rfl
        | _ => cases kd
      subst kd2
      cases n7 with
      | nil => cases h7
      | cons p r =>
        cases r with
        | cons _ _ => simp at h7
        | nil =>
          obtain ⟨nm, cc⟩ := p
          have hn : nm = ("__class__" : Str) := by
            simp only [List.map_cons, List.map_nil, List.cons.injEq, and_true] at h7
            exact h7
          subst hn
          dsimp only at kA
          cases n13 with
          | ref cda =>
            dsimp only at kB
            obtain ⟨k4, k5⟩ := He.ba kB
            cases qc : K.lookup cc with
            | none => rw [qc] at kA; cases kA
            | some oc2 =>
              obtain ⟨a1, a2, a3, a4⟩ := oc2
              rw [qc] at kA
              cases a3 with
              | cell v =>
                cases v with
                | none => cases kA
                | some v =>
                  cases v with
                  | ref D =>
                    have hD : D = He.ga K d.cls := eq_of_beq kA
                    subst hD
                    cases qd : K.lookup cda with
                    | none => rw [qd] at k5; cases k5
                    | some od2 =>
                      obtain ⟨b1, b2, b3, b4⟩ := od2
                      rw [qd] at k5
                      cases b3 with
                      | fields vs =>
                        dsimp only at k5
                        cases qv : vs[2]? with
                        | none => rw [qv] at k5; cases k5
                        | some v2 =>
                          rw [qv] at k5
                          cases v2 with
                          | str fl tf =>
                            have hfl : fl = P.main.file := eq_of_beq k5
                            subst hfl
                            obtain ⟨cdD, hcd⟩ := Option.isSome_iff_exists.mp c2
                            exact ⟨_, cc, cda, ⟨oc, od, osl, n9, n10, n11, n12, n14, rfl, q⟩, k4, ⟨cc, a1, a2, a4, rfl, qc⟩, ⟨ar, ars.map (·.arg), by rw [hpa]; rfl, by rw [hpa]; rfl, hka⟩, ⟨b1, b2, vs, b4, P.main.file, tf, qd, qv, by simp⟩, ⟨cdD, hcd⟩,
                              of_decide_eq_true c3, hks, hkc, hmg, htop, of_decide_eq_true c4, of_decide_eq_true c5, of_decide_eq_true c6, oexB_ok c1⟩
                          | _ => cases k5
                      | _ => cases k5
                  | _ => cases kA
              | _ => cases kA
          | _ => cases kB
    | _ => cases c0
end Sim

/-! own exceptions raised: their mirrors and promises -/
namespace Sim
open PySem PySem.Spec PyProof.Rows L2 Evl NdefX
/-- an exception's field: data -/
inductive Xv where
  | int (i : Int)
  | str (s : Str)
deriving DecidableEq
def rX : Rep Xv := ⟨fun _ v x => match x with
  | .int i => v = .int i
  | .str s => v = .str s, fun {_ _ v x} _ h => by cases x <;> exact h⟩
structure Xn where
  cls : Str
  fs : List (Str × Xv)
/-- its dict at d -/
def Xat (G : Hp) (e : Xn) (d : Addr) : Prop := ∃ fs, G d = some (.xd fs) ∧ ∀ f x, e.fs.lookup f = some x → ∃ v, fs.lookup f = some v ∧ rX.r G v x
section
variable {K : PySem.W.Frag} {σ : L2.St} {G H G0 H0 : Hp} {ls : List Addr} {cs : Cs} {ta : TA} {ι : Type} {A : AR ι}
end
end Sim

/-! the __init__ of an own exception, walked -/
namespace Sim
open PySem PySem.Spec PyProof.Rows L2 Evl NdefX
section
variable {K : PySem.W.Frag} {σ : L2.St} {H : Hp} {a C dx : Addr} {D : Ends}
end
section
variable {CX : CXT} {P : Program} {w : World} {K : PySem.W.Frag} {mg : Str → Option Value} {base : Heap} {N ps : List Str} {F : NF} {C f : Addr} {fd : FuncData} {k : Nat} {t : Str} {rest : List Stmt} {p0 p1 p2 p3 p4 pc : Pos} {j : Nat} {pl : Sem Bool} {names : List Str} {fi : List (Str × Nat)}
end
end Sim

/-! calls that may raise, at the caller's slots; try -/
namespace L2
open PySem PySem.Spec PyProof.Rows
section
variable {X : Cx} {CX : CXT} {k : Nat} {f C : Addr} {fd : FuncData} {ps : List Str} {sp : Sp} {E : St → XK} {x m : Str} {p pos apos : Pos} {e o : Expr} {es : List Expr} {ta : TE} {t : TA}
end
/-- several clauses, each with a name -/
def wManyA (K : PySem.W.Frag) (Wout : WX) (D : Ends) : List (Value × Option Nat × (Addr → Value → Option Addr → TS)) → WX
  | [] => Wout
  | (c, some i, ts) :: r => fun cls d σ H => ∃ b, PySem.W.exmOne K cls c = some b ∧ (b = true → ∀ a, H a = none → ts a cls d { nx := fun σ' H' => D.nx (σ'.set i none) H', rt := D.rt, bk := fun σ' H' => D.bk (σ'.set i none) H', ct := fun σ' H' => D.ct (σ'.set i none) H' } (σ.set i (some (.ref a))) H) ∧
      (b = false → wManyA K Wout D r cls d σ H)
  | (c, none, ts) :: r => fun cls d σ H => ∃ b, PySem.W.exmOne K cls c = some b ∧ (b = true → ∀ a, H a = none → ts a cls d D σ H) ∧ (b = false → wManyA K Wout D r cls d σ H)
end L2
namespace Sim
open PySem PySem.Spec PyProof.Rows L2 Evl
section
variable {K : PySem.W.Frag} {σ : L2.St} {G H W G0 H0 : Hp} {ls : List Addr} {cs : Cs} {ta : TA} {to te : TE} {ι α β γ : Type} {A : AR ι} {R : Rep α} {S : Rep β} {T : Rep γ} {t u : TS} {D : Ends}
theorem Xat.mono {G G2 : Hp} {e : Xn} {d : Addr} (x : Ex G G2) (h : Xat G e d) : Xat G2 e d := by
  obtain ⟨fs, h1, h2⟩ := h
  exact ⟨fs, x d _ h1, fun f y hy => by obtain ⟨v, h3, h4⟩ := h2 f y hy; exact ⟨v, h3, rX.mono x h4⟩⟩
end
end Sim

/-! try with several clauses, each with or without a name -/
namespace L2
open PySem PySem.Spec PyProof.Rows
/-- one clause: its class, the slot of its name, its suite -/
abbrev Cla : Type := Value × Option Nat × (Addr → Value → Option Addr → TS)
def SuOk (X : Cx) (su : List Stmt) (ts : Addr → Value → Option Addr → TS) : Prop := ∀ (a : Addr) (oe : Obj) (cls : Value) (d : Option Addr) (pn : List (Addr × Obj)), Zc cls d oe → (∃ vs, oe.data = .fields vs) → PSs (X.suite a ((a, oe) :: pn)) su (ts a cls d)
inductive HdsA (X : Cx) : List ExceptHandler → List Cla → Prop
  | nil : HdsA X [] []
  | plain {x : Str} {c : Value} {ts} {b₀ : Stmt} {su : List Stmt} {np p : Pos} {hds l} (hc : Names X x c) (hsu : SuOk X (b₀ :: su) ts) (r : HdsA X hds l) : HdsA X (.ExceptHandler (some (.Name x np)) none (b₀ :: su) p :: hds) ((c, none, ts) :: l)
  | as_ {x n : Str} {i : Nat} {c : Value} {ts} {b₀ : Stmt} {su : List Stmt} {np p : Pos} {hds l} (hc : Names X x c) (hi : X.N[i]? = some n) (hln : X.env.kindOf n = some .local) (hsu : SuOk X (b₀ :: su) ts) (r : HdsA X hds l) :
      HdsA X (.ExceptHandler (some (.Name x np)) (some n) (b₀ :: su) p :: hds) ((c, some i, ts) :: l)
/-- the exception at a is in the air over the state s, sI is the state without it -/
structure Aloft (X : Cx) (pins : List (Addr × Obj)) (σ : L2.St) (H : Hp) (cls : Value) (d : Option Addr) (a : Addr) (B : Heap) (sI s : Shared) : Prop where
  inv : Inv X pins σ H sI
  nb : ∀ b o, sI.heap.get? b = some o → b ∉ frs X.stack → B.get? b = some o
  up : sI.heap.UpToSlots s.heap
  fl : HandSPX.FlyingZ B X.stack a (Zc cls d) s.heap
  na : H a = none
  os : s.os = sI.os
  ag : AllBare s.gens
section
variable {X : Cx} {pins : List (Addr × Obj)} {σ : L2.St} {H : Hp} {cls : Value} {d : Option Addr} {a : Addr} {B : Heap} {sI s : Shared}
/-- seen from within a suite -/
theorem Aloft.within (A : Aloft X pins σ H cls d a B sI s) (hs : X.stack = X.env :: X.outer) (hf : X.env.frame = some X.env.locals) :
    ∃ oe, s.heap.get? a = some oe ∧ Zc cls d oe ∧ (∃ vs, oe.data = .fields vs) ∧ Inv X pins σ H s ∧ Inv (X.suite a ((a, oe) :: (X.pn ++ pins))) [] σ H s := by
  obtain ⟨oe, vs, h1, h2, h3⟩ := A.fl.there
  have J : Inv X pins σ H s := A.inv.landed A.nb A.fl.1 A.up A.os A.ag
  have out : a ∉ frs X.stack := fun hm => by
    obtain ⟨_, o, ho, hn⟩ := A.fl.2.2.1.mem hm
    rw [h1] at ho
    cases ho
    exact hn _ h3
  rw [hs] at out
  refine ⟨oe, h1, h2, ⟨vs, h3⟩, J, J.suite h1 h3 A.na (fun z => out ?_) (fun hm => out ?_)⟩
  · exact List.mem_filterMap.mpr ⟨X.env, List.mem_cons_self, by rw [hf, z]⟩
  · obtain ⟨e, he, q⟩ := List.mem_filterMap.mp hm
    exact List.mem_filterMap.mpr ⟨e, List.mem_cons_of_mem _ he, q⟩
/-- no clause is left -/
theorem Aloft.pass {Wout : WX} {Q : Flow → Shared → Prop} (A : Aloft X pins σ H cls d a B sI s) (hs : X.stack = X.env :: X.outer) (hf : X.env.frame = some X.env.locals) (tk : Takes X Wout) (w : Wout cls d σ H) :
    wpAny (model X.prog X.w) X.A (handleBy (.ref a) X.env []) Q X.xe s := by
  have fl := A.fl
  obtain ⟨_, _, _, oe, vs, T, oT, ts, h1, h2, h3, h4, _⟩ := id fl
  refine wpAny_handleBy_nil ?_
  unfold PySem.passOn
  refine wpAny_bind (wpAny_field h1 h3 h4 ?_)
  rw [if_neg (show ¬ ((Value.ref T == Value.none) = true) from by simp)]
  have last : wpAny (model X.prog X.w) X.A (setFlight (.ref a) X.env.frame) (fun _ s4 => wpAny (model X.prog X.w) X.A (throw (.ref a) : Sem Flow) Q X.xe s4) X.xe s := by
    rw [hf]
    rw [hs] at fl
    exact HandSPX.setFlight_upZ fl fun h4 hh up => wpAny_throw (tk _ _ ⟨a, B, sI, pins, σ, H, cls, d, rfl, A.inv, A.nb, A.up.trans up, .inr (.inr (by rw [hs]; exact hh)), A.na, A.os, A.ag, w⟩)
  first
    | exact wpAny_bind (wpAny_pure (wpAny_bind last))
    | exact wpAny_bind last
/-- the clauses, one after the other -/
theorem Aloft.go {Wout : WX} {D : Ends} (A : Aloft X pins σ H cls d a B sI s) (ok : X.Ok) (hN : X.N.Nodup) (hs : X.stack = X.env :: X.outer) (hf : X.env.frame = some X.env.locals) (tk : Takes X Wout) {hds : List ExceptHandler} {l : List Cla}
    (hk : HdsA X hds l) : wManyA X.K Wout D l cls d σ H → wpAny (model X.prog X.w) X.A (handleBy (.ref a) X.env hds) (SP X pins D) X.xe s := by
  obtain ⟨oe, h1, h2, _, J, S⟩ := A.within hs hf
  have ask : ∀ {x : Str} {c : Value} {np : Pos} {Q : Value → Shared → Prop} {E : Value → Shared → Prop}, Names X x c → Q c s → wpAny (model X.prog X.w) (X.A.mark (some (.ref a))) (eval (.Name x np) X.env) Q E s := fun {x c np Q E} hc q => by
    obtain ⟨hg, hd, hm | ⟨hm, hv, hn⟩⟩ := hc
    · exact ld_glob (X := X.suite a ((a, oe) :: (X.pn ++ pins))) S hg hm q hd
    · exact ld_blt (X := X.suite a ((a, oe) :: (X.pn ++ pins))) S hg hm hv q hn hd
  have kind : PySem.W.Looks (model X.prog X.w) s.heap (typeOf (.ref a)) cls := fun A Q E s k q => wpAny_typeOf_ref (k _ _ h1) (by rw [h2.1]; exact q)
  induction hk with
  | nil => exact fun w => A.pass hs hf tk w
  | @plain x c ts b₀ su np p hds l hc hsu r ih =>
    rintro ⟨b, hb, yes, no⟩
    refine wpAny_handleBy_cons (codeAny_handlers_test ?_) (by intro q; cases q)
    refine ask hc ((PySem.W.exm_one (M := model X.prog X.w) J.kIn kind hb).here ?_)
    cases b with
    | false => exact ih (no rfl)
    | true =>
      refine codeAny_handlers_suite ?_
      have fl := A.fl
      rw [hs] at fl
      refine HandSPX.lands_againZ fl fun h4 fl4 up4 => ?_
      have A4 : Aloft X pins σ H cls d a B sI { s with heap := h4 } := ⟨A.inv, A.nb, A.up.trans up4, by rw [hs]; exact fl4, A.na, A.os, A.ag⟩
      obtain ⟨oe4, _, z4, f4, _, S4⟩ := A4.within hs hf
      refine wpAny_mono ((hsu a oe4 cls d _ z4 f4).run [] _ _ H _ S4 (yes rfl a A.na)) (fun f s6 hsp => ?_) (fun _ _ z => False.elim z)
      cases f with
      | ret u => obtain ⟨v, σ6, H6, S6, r6, q⟩ := hsp; exact ⟨v, σ6, H6, S6.unsuite ok, r6, q⟩
      | next => obtain ⟨σ6, H6, S6, q⟩ := hsp; exact ⟨σ6, H6, S6.unsuite ok, q⟩
      | brk => obtain ⟨σ6, H6, S6, q⟩ := hsp; exact ⟨σ6, H6, S6.unsuite ok, q⟩
      | cont => obtain ⟨σ6, H6, S6, q⟩ := hsp; exact ⟨σ6, H6, S6.unsuite ok, q⟩
  | @as_ x n i c ts b₀ su np p hds l hc hi hln hsu r ih =>
    rintro ⟨b, hb, yes, no⟩
    refine wpAny_handleBy_cons (codeAny_handlers_test ?_) (by intro q; cases q)
    refine ask hc ((PySem.W.exm_one (M := model X.prog X.w) J.kIn kind hb).here ?_)
    cases b with
    | false => exact ih (no rfl)
    | true =>
      refine codeAny_handlers_suite_as ?_
      have fl := A.fl
      rw [hs] at fl
      refine HandSPX.lands_againZ fl fun h4 fl4 up4 => ?_
      have A4 : Aloft X pins σ H cls d a B sI { s with heap := h4 } := ⟨A.inv, A.nb, A.up.trans up4, by rw [hs]; exact fl4, A.na, A.os, A.ag⟩
      obtain ⟨oe4, _, z4, f4, _, S4⟩ := A4.within hs hf
      refine store_ok (X := X.suite a ((a, oe4) :: (X.pn ++ pins))) (v := .ref a) S4 hN hi (.inl hln) rfl (fun s5 S5 => ?_) (.inr hln)
      refine wpAny_mono ((hsu a oe4 cls d _ z4 f4).run [] s5 _ H _ S5 (yes rfl a A.na)) (fun f s6 hsp => ?_) (fun _ _ z => False.elim z)
      have off : ∀ {σ6 : L2.St} {H6 : Hp} {Q : Shared → Prop}, Inv (X.suite a ((a, oe4) :: (X.pn ++ pins))) [] σ6 H6 s6 → (∀ s7, Inv X pins (σ6.set i none) H6 s7 → Q s7) →
          wpAny (model X.prog X.w) X.A (do bindName X.env n .none; unbindBehindTheSuite X.env n p) (fun _ s7 => Q s7) X.xe s6 := fun S6 k => gone_ok (S6.unsuite ok) hN hi hln k
      cases f with
      | ret u => obtain ⟨v, σ6, H6, S6, r6, q⟩ := hsp; exact off S6 fun s7 J7 => ⟨v, _, H6, J7, r6, q⟩
      | next => obtain ⟨σ6, H6, S6, q⟩ := hsp; exact off S6 fun s7 J7 => ⟨_, H6, J7, q⟩
      | brk => obtain ⟨σ6, H6, S6, q⟩ := hsp; exact off S6 fun s7 J7 => ⟨_, H6, J7, q⟩
      | cont => obtain ⟨σ6, H6, S6, q⟩ := hsp; exact off S6 fun s7 J7 => ⟨_, H6, J7, q⟩
end
section
variable {X : Cx} {body : List Stmt} {h₀ : ExceptHandler} {hds : List ExceptHandler} {l : List Cla} {pos : Pos} {tb : WX → TS} {Wout : WX}
end
end L2

/-! the hook with own exceptions -/
namespace Sim
open PySem PySem.Spec PyProof.Rows L2 Evl
/-- the property f of the class C, its place, its getter -/
def prP (K : PySem.W.Frag) (C f : Str) : Addr := He.ma K (He.ga K C) f
def wrG (K : PySem.W.Frag) (k : String) (C f : Str) : Addr := match PySem.W.recIn K (prP K C f) k with
  | some (.ref g :: _) => g
  | _ => 0
def statB (C f : Str) (K : PySem.W.Frag) : Bool := decide (PySem.W.specialIn K (.ref (He.ga K C)) "__getattribute__" = some (some (.builtin "type.__getattribute__"))) && (decide (PySem.W.typeIn K (.ref (He.ga K C)) = some (.type "type")) &&
  (PySem.W.readsIn K (He.ga K C) (.type "type") && ((match PySem.W.findCls K (.ref (He.ga K C)) (.type "type") f with
    | some (.get (.builtin n) (.ref p) .none (.ref D)) => n == "staticmethod.__get__" && (p == prP K C f && D == He.ga K C)
    | _ => false) && (match PySem.W.recIn K (prP K C f) "staticmethod" with
    | some (.ref g :: _) => PySem.W.handedIn (.ref g)
    | _ => false))))
def propB (C f : Str) (K : PySem.W.Frag) : Bool := decide (PySem.W.findIn K (.ref (He.ga K C)) f = some (some (.ref (prP K C f)))) && (decide (PySem.W.specialIn K (.ref (prP K C f)) "__get__" = some (some (.builtin "property.__get__"))) &&
  (decide (PySem.W.takesIn K (.ref (prP K C f)) = some true) && (match PySem.W.recIn K (prP K C f) "property" with
    | some (.ref _ :: _) => true
    | _ => false)))
/-- a property's getter: a def -/
structure GeD where
  kind : String
  cls : Str
  prop : Str
  qual : Str
  params : Arguments
  body : List Stmt
  scope : Scope
def fnG (K : PySem.W.Frag) (k : String) (C f : Str) : He.FnW := match K.lookup (wrG K k C f) with
  | some ⟨_, _, .func fd, _⟩ => some (fd.name, fd.qualname, fd.params, fd.body, fd.scope, fd.globals, fd.closure, fd.builtins)
  | _ => none
def GeD.val (d : GeD) : He.FnW := some (d.prop, d.qual, d.params, .stmts d.body, d.scope, mainGlobals, [], builtinsNs)
def GeD.ok (K : PySem.W.Frag) (d : GeD) : Bool := (bif d.kind == "property" then propB d.cls d.prop K else statB d.cls d.prop K) && (PySem.W.keepIn K (.ref (wrG K d.kind d.cls d.prop)) && (match K.lookup (wrG K d.kind d.cls d.prop) with
  | some ⟨_, _, .func fd, _⟩ => PySem.W.codeIn K fd.code d.qual && (He.dflB K fd.defaults [] && He.kwdB K fd.kwdefaults [])
  | _ => false))
abbrev AlX : Type := He.AlD × Bool × List FnY × List He.FnW
def obsX (fa : List He.Fa) (fn : List He.DefD) (ex : List (PySem.W.Frag → Bool)) (xs : List XcD) (gs : List GeD) (file : Str) (K : PySem.W.Frag) : AlX := (He.obsD fa fn K, (ex.all fun e => e K) && ((xs.all fun d => d.ok K file) && gs.all fun d => d.ok K), (xs.map fun d => fnY K d.cls), gs.map fun d => fnG K d.kind d.cls d.prop)
def obsXG (n : Nat) (fa : List He.Fa) (fn : List He.DefD) (ex : List (PySem.W.Frag → Bool)) (xs : List XcD) (gs : List GeD) (file : Str) (g : Addr → Option Obj) : AlX := obsX fa fn ex xs gs file (He.frG g (cStatics :: He.asD g n))
structure SaysX (fa : List He.Fa) (fn : List He.DefD) (ex : List (PySem.W.Frag → Bool)) (xs : List XcD) (gs : List GeD) (file : Str) (K : PySem.W.Frag) : Prop where
  d : He.SaysD fa fn K
  x : ((ex.all fun e => e K) && ((xs.all fun d => d.ok K file) && gs.all fun d => d.ok K)) = true
  y : (xs.map fun d => fnY K d.cls) = xs.map XcD.val
  g : (gs.map fun d => fnG K d.kind d.cls d.prop) = gs.map GeD.val
def hookX (n : Nat) (fa : List He.Fa) (fn : List He.DefD) (ex : List (PySem.W.Frag → Bool)) (xs : List XcD) (gs : List GeD) (file : Str) : PySem.W.Hook where
  α := AlX
  obs := fun s => obsXG n fa fn ex xs gs file s.heap.get?
  val := fun _ => (He.valD fn, true, xs.map XcD.val, gs.map GeD.val)
  says := fun _ h => ∃ K : PySem.W.Frag, K.In h ∧ SaysX fa fn ex xs gs file K
  of := fun _ _ e => ⟨_, He.frG_in, congrArg (fun z : AlX => z.1) e, congrArg (fun z : AlX => z.2.1) e, congrArg (fun z : AlX => z.2.2.1) e, congrArg (fun z : AlX => z.2.2.2) e⟩
  keeps := fun _ _ _ ⟨K, hK, c⟩ k => ⟨K, PySem.W.Frag.In.keeps hK k, c⟩
structure TxX (fa : List He.Fa) (fn : List He.DefD) (es : List (PySem.W.Frag → Bool)) (xs : List XcD) (gs : List GeD) (file : Str) (K : PySem.W.Frag) (mg : Str → Option Value) : Prop extends TxE fa fn es K mg where
  xo : (xs.all fun d => d.ok K file) = true
  xv : (xs.map fun d => fnY K d.cls) = xs.map XcD.val
  go : (gs.all fun d => d.ok K) = true
  gv : (gs.map fun d => fnG K d.kind d.cls d.prop) = gs.map GeD.val
section
variable {fa : List He.Fa} {fn : List He.DefD} {es : List (PySem.W.Frag → Bool)} {xs : List XcD} {gs : List GeD} {file : Str} {K : PySem.W.Frag} {mg : Str → Option Value}
theorem TxX.mk' {h : Heap} (KX : K.In h) (G : h.Ns mainGlobals mg) (c : SaysX fa fn es xs gs file K) : TxX fa fn es xs gs file K mg := by
  obtain ⟨h1, h2⟩ := He.ba c.x
  obtain ⟨h2, h3⟩ := He.ba h2
  exact ⟨⟨⟨⟨h, KX, G⟩, c.d⟩, h1⟩, h2, c.y, h3, c.g⟩
end
end Sim

/-! isinstance of a caught exception that has fields; properties -/
namespace PySem.W
open PySem PySem.Calls PyProof.Rows PySem.Spec
section
variable {prog : Program} {w : World} {A : Around} {E : Value → Shared → Prop} {s : Shared} {K : Frag} {x D : Addr} {ox : Obj} {od : Obj}
end
end PySem.W
namespace L2
open PySem PySem.Spec PyProof.Rows
end L2
namespace Sim
open PySem PySem.Spec PyProof.Rows L2 Evl
section
variable {K : PySem.W.Frag} {σ : L2.St} {G H W : Hp} {to : TE} {ta : TA} {α γ : Type} {T : Rep γ}
end
end Sim

namespace Sim
open PySem PySem.Spec PyProof.Rows L2 Evl
end Sim

/-! a class made whose __init__ may raise; isinstance of whatever was caught; tables of exception classes -/
namespace L2
open PySem PySem.Spec PyProof.Rows
section
variable {X : Cx} {CX : CXT} {k : Nat} {f C : Addr} {fd : FuncData} {ps : List Str} {sp : Sp} {E : St → XK} {x m : Str} {p pos apos : Pos} {e o : Expr} {es : List Expr} {ta : TE} {t : TA}
end
end L2
namespace Sim
open PySem PySem.Spec PyProof.Rows L2 Evl
/-! tables: what the top's end says of the exception classes cs -/
section
variable {K : PySem.W.Frag} {cs fs : List Str} {C D f : Str} {b : Bool}
end
section
variable {K : PySem.W.Frag} {σ : L2.St} {G H W G0 H0 G2 H2 : Hp} {ls : List Addr} {cs : Cs} {ta tb : TA} {to te tu : TE} {ι α β γ : Type} {A : AR ι} {R : Rep α} {S : Rep β} {T : Rep γ} {D : Ends} {l C : Addr} {ns : List Str} {fl : α → List Pd}
end
end Sim

/-! properties; == of further data; list + list; index; all, any -/
namespace Sim
open PySem PySem.Spec PyProof.Rows L2 Evl
section
variable {K : PySem.W.Frag} {σ : L2.St} {G H W G' W' : Hp} {ta : TA} {te tu : TE} {ι α β γ : Type} {A : AR ι} {R : Rep α} {S : Rep β} {T : Rep γ}
end
end Sim

/-! operators of own classes: ==, len, in, binary and unary ones -/
namespace L2
open PySem PySem.Spec PyProof.Rows
section
variable {X : Cx} {CX : CXT} {k : Nat} {f C : Addr} {fd : FuncData} {ps : List Str} {sp : Sp} {pins : List (Addr × Obj)} {σ : St} {H : Hp} {s : Shared} {ta tb : TE}
end
end L2

/-! operators of own classes: what they read as -/
namespace Sim
open PySem PySem.Spec PyProof.Rows L2 Evl
section
variable {K : PySem.W.Frag} {σ : L2.St} {G H W : Hp} {ta tb te : TE} {tA : TA} {α β γ ι : Type} {R : Rep α} {S : Rep β} {T : Rep γ} {A : AR ι} {C : Addr} {ns : List Str} {fl : α → List Pd}
end
end Sim

/-! what is walked, told in general; comprehensions with two clauses -/
namespace Sim
open PySem L2 Evl
section
variable {K : PySem.W.Frag} {σ : L2.St} {G H W G' W' : Hp} {te tl : TE} {tt tt1 : TT} {α β γ δ : Type} {R : Rep α} {S : Rep β} {T : Rep γ} {wi wi1 : TI} {g g1 : TG}
/-! ### [e2 for x in xs if f1 for y in g2 x if p2] -/
structure Acc (G0 H0 : Hp) (T : Rep γ) (D : Addr) (G H : Hp) (acc : List V) (ys : List γ) : Prop where
  n : H0 D = none
  u : Up G0 H0 G H
  gd : G D = none
  hd : H D = some (.lst acc)
  pr : Paired (T.r G) acc ys
section
variable {G0 H0 : Hp} {D : Addr} {acc : List V} {ys zs : List γ}
theorem Acc.sc {H2 : Hp} (A : Acc G0 H0 T D G H acc ys) (e : Ex H H2) : Acc G0 H0 T D G H2 acc ys := ⟨A.n, A.u.trans (Up.same A.u.gh e), A.gd, e _ _ A.hd, A.pr⟩
theorem Acc.up {G2 H2 : Hp} (A : Acc G0 H0 T D G H acc ys) (u : Up G H G2 H2) : Acc G0 H0 T D G2 H2 acc ys :=
  ⟨A.n, A.u.trans u, u.nw D (by rw [A.hd]; simp) A.gd, u.hh _ _ A.hd, Paired.mapP A.pr fun _ _ => T.mono u.gg⟩
end
/-! ### is True, is False; and where the first operand is known -/
end
section
variable {K : PySem.W.Frag} {σ : L2.St} {G H W : Hp} {te ta : TE} {α : Type}
end
end Sim

/-! static methods, class constants read off the class -/
namespace L2
open PySem PySem.Spec PyProof.Rows
section
variable {X : Cx} {CX : CXT} {k : Nat} {f C p : Addr} {fd : FuncData} {ps : List Str} {sp : Sp} {E : St → XK} {x m : Str} {pos apos : Pos} {e o : Expr} {es : List Expr} {ta : TE} {t : TA}
end
end L2
namespace Sim
open PySem PySem.Spec PyProof.Rows L2 Evl
section
variable {K : PySem.W.Frag} {σ : L2.St} {G H W : Hp} {ta : TA} {ι γ : Type} {A : AR ι} {T : Rep γ} {C : Addr}
end
end Sim

/-! data of mixed kinds; a pair unpacked; one-clause comprehensions over anything -/
namespace Sim
open PySem L2 Evl
mutual
theorem Dp.up {K : PySem.W.Frag} {H H' : Hp} (e : Ex H H') : ∀ {v : V} {d : PyData}, Dp K H v d → Dp K H' v d
  | _, _, .non => .non
  | _, _, .bl b => .bl b
  | _, _, .int i => .int i
  | _, _, .str x => .str x
  | _, _, .lst h t => .lst (ex_l e h) (DpAll.up e t)
  | _, _, .tup h t => .tup (ex_t e h) (DpAll.up e t)
theorem DpAll.up {K : PySem.W.Frag} {H H' : Hp} (e : Ex H H') : ∀ {vs : List V} {ds : List PyData}, DpAll K H vs ds → DpAll K H' vs ds
  | _, _, .nil => .nil
  | _, _, .cons h t => .cons (Dp.up e h) (DpAll.up e t)
end
section
variable {K : PySem.W.Frag} {σ : L2.St} {G H W G0 H0 : Hp} {ls : List Addr} {cs : Cs} {te : TE} {α β γ : Type} {R : Rep α} {S : Rep β} {T : Rep γ} {D : Ends} {tz : TS}
end
section
variable {K : PySem.W.Frag} {σ : L2.St} {G H W : Hp} {te : TE} {tt : TT} {α γ : Type} {R : Rep α} {T : Rep γ} {wi : TI} {g : TG}
end
end Sim

/-! dicts -/
namespace Sim
open PySem L2 Evl
/-- a dict: its entries in order; kf: how a key stands -/
def rM {κ α : Type} (kf : κ → Key) (R : Rep α) : Rep (List (κ × α)) := ⟨fun H v kvs => ∃ a ws, v = .ref a ∧ H a = some (.dK ws) ∧ Paired (fun (p : Key × V) (q : κ × α) => p.1 = kf q.1 ∧ R.r H p.2 q.2) ws kvs,
  fun e ⟨a, ws, h1, h2, h3⟩ => ⟨a, ws, h1, e a _ h2, Paired.mapP h3 fun _ _ h => ⟨h.1, R.mono e h.2⟩⟩⟩
section
variable {K : PySem.W.Frag} {σ : L2.St} {G H W : Hp} {κ α β γ : Type} {kf : κ → Key} {R : Rep α}
end
end Sim

set_option maxHeartbeats 2000000
/-! own iterables: __iter__ gives iter(a list of theirs) -/
namespace L2
open PySem PySem.Spec PyProof.Rows ItX
section
variable {X : Cx} {k j : Nat} {fi C : Addr} {fd : FuncData} {ps : List Str} {pins : List (Addr × Obj)} {σ : St} {H : Hp} {s : Shared} {te : TE} {f : Str}
/-! ### list(o) -/
variable {fl : Addr} {fdl : FuncData} {psl : List Str} {spl : Sp}
end
end L2

namespace Sim
open PySem L2 Evl
section
variable {K : PySem.W.Frag} {σ : L2.St} {G H W : Hp} {te : TE} {α β γ : Type} {R : Rep β} {C : Addr} {ns : List Str} {fl : α → List Pd}
end
end Sim
namespace Sim
open PySem L2
end Sim

set_option maxHeartbeats 2000000
/-! a class with slots -/
namespace L2
open PySem PySem.Spec PyProof.Rows SlX
section
variable {X : Cx} {CX : CXT} {k : Nat} {f C : Addr} {fd : FuncData} {ps : List Str} {sp : Sp} {pins : List (Addr × Obj)} {σ : St} {H : Hp} {s : Shared} {ta tb : TE}
end
end L2
namespace Sim
open PySem PySem.Spec PyProof.Rows L2 Evl SlX
abbrev Ps := List (Nat × Pd)
def PsAt (ps : Ps) (G : Hp) (vs : List (Option V)) : Prop := ∀ q ∈ ps, ∃ v, vs[q.1]? = some (some v) ∧ q.2.p G v
theorem PsAt.mono {ps : Ps} {G G' : Hp} {vs : List (Option V)} (e : Ex G G') (h : PsAt ps G vs) : PsAt ps G' vs := fun q hq => by
  obtain ⟨v, h1, h2⟩ := h q hq
  exact ⟨v, h1, q.2.mono e h2⟩
/-- an instance with slots, as data -/
def rSl {α : Type} (C : Addr) (fl : α → Ps) : Rep α := ⟨fun H v x => ∃ a dx vs, v = .ref a ∧ H a = some (SlO a C dx vs) ∧ H dx = some (.xd []) ∧ PsAt (fl x) H vs,
  fun e ⟨a, dx, vs, h1, h2, h3, h4⟩ => ⟨a, dx, vs, h1, e a _ h2, e dx _ h3, h4.mono e⟩⟩
section
variable {K : PySem.W.Frag} {σ : L2.St} {G0 H0 G H G2 H2 W : Hp} {ls : List Addr} {cs : Cs} {l ld C : Addr} {ta : TA} {te to : TE} {α β γ ι : Type} {R : Rep α} {S : Rep β} {T : Rep γ} {A : AR ι} {D : Ends} {tz : TS} {fl : α → Ps}
theorem PsAt.put {ps : Ps} {vs : List (Option V)} {n : Nat} {v : V} {q : Pd} (h : PsAt ps G vs) (hn : ∀ p ∈ ps, p.1 ≠ n) (r : q.p G v) : PsAt (ps ++ [(n, q)]) G (putS n v vs) := fun p hp => by
  rcases List.mem_append.mp hp with hp | hp
  · obtain ⟨w, h1, h2⟩ := h p hp
    exact ⟨w, (putS_ne (hn p hp)).mpr h1, h2⟩
  · rw [List.mem_singleton.mp hp]
    exact ⟨v, putS_get n v vs, r⟩
/-! own == -/
end
/-! facts of the text -/
def sclB (C : Str) (K : PySem.W.Frag) : Bool := PySem.W.plainGet K (He.ga K C) Str.empty && (PySem.W.isClsIn K (He.ga K C) && (PySem.W.plainOver K (He.ga K C) && decide (PySem.W.findIn K (.ref (He.ga K C)) "__setattr__" = some (some (.builtin "object.__setattr__")))))
def slotB (C f : Str) (i : Nat) (K : PySem.W.Frag) : Bool := decide (PySem.W.findIn K (.ref (He.ga K C)) f = some (some (.ref (He.ma K (He.ga K C) f)))) && (decide (PySem.W.specialIn K (.ref (He.ma K (He.ga K C) f)) "__get__" = some (some (.builtin "member_descriptor.__get__"))) &&
  (decide (PySem.W.takesIn K (.ref (He.ma K (He.ga K C) f)) = some true) && (decide (PySem.W.typeIn K (.ref (He.ma K (He.ga K C) f)) = some (.type "member_descriptor")) && (decide (PySem.W.slotIn K (He.ma K (He.ga K C) f) (He.ga K C) = some i) && decide (i < 1000)))))
end Sim

/-! cells of any kind; dicts; texts -/
namespace L2
open PySem PySem.Spec PyProof.Rows
section
variable {X : Cx}
end
end L2
namespace Sim
open PySem L2 Evl
/-! ### texts -/
section
variable {K : PySem.W.Frag} {σ : L2.St} {G0 H0 G H G2 H2 W : Hp} {ls : List Addr} {cs : Cs} {l : Addr} {cp' : CP} {ta : TA} {te td ti tx : TE} {α β γ ι κ : Type} {R : Rep α} {S : Rep β} {T : Rep γ} {A : AR ι} {D : Ends} {tz : TS}
/-! ### cells of any kind -/
/-- what stands in such a cell is data once nobody changes it -/
def Fz (cp : β → CP) (S : Rep β) : Prop := ∀ {G G' : Hp} {l : Addr} {o : HO} {x : β}, (cp x).p G o → Ex G G' → G' l = some o → S.r G' (.ref l) x
def EC (te : TE) (σ : L2.St) (G W : Hp) (cp : β → CP) (m : Option β) : Prop :=
  ∀ x, m = some x → ∀ H, Ex G H → Ex W H → ∀ Q : VK, (∀ p H2 G2, H p = none → Up G H G2 H2 → Wd G2 H2 [(p, cp x)] → Q (.ref p) H2) → te σ H Q
variable {cp : β → CP}
theorem frzC {G H G1 H1 : Hp} {p : Addr} {x : β} (F : Fz cp S) (hp : H p = none) (u : Up G H G1 H1) (w : Wd G1 H1 [(p, cp x)]) : ∃ G2, Up G H G2 H1 ∧ S.r G2 (.ref p) x := by
  obtain ⟨h1, o, h2, h3⟩ := w.head
  refine ⟨upd G1 p o, u.frz hp (Ex.new h1) (fun a u' e => ?_) (fun a ne h => by rw [upd_ne ne]; exact h), F h3 (Ex.new h1) upd_same⟩
  by_cases q : a = p
  · subst q; rw [upd_same] at e; cases e; exact h2
  · rw [upd_ne q] at e; exact w.ex a u' e
theorem EC.e {m : Option β} (F : Fz cp S) (h : EC te σ G W cp m) : E te σ G W S m := fun x hx H e e' Q q => h x hx H e e' Q fun p H2 G2 hp u w => by
  obtain ⟨G3, u3, r3⟩ := frzC F hp u w
  exact q _ H2 G3 u3 r3
/-! ### dicts -/
variable {κ : Type} [DecidableEq κ] {kf : κ → Key}
def Pm (kf : κ → Key) (R : Rep α) (G : Hp) : List (Key × V) → List (κ × α) → Prop := Paired (fun (p : Key × V) (q : κ × α) => p.1 = kf q.1 ∧ R.r G p.2 q.2)
def cM (kf : κ → Key) (R : Rep α) (kvs : List (κ × α)) : CP := ⟨fun G o => ∃ ws, o = .dK ws ∧ Pm kf R G ws kvs, fun e ⟨ws, h1, h2⟩ => ⟨ws, h1, Paired.mapP h2 fun _ _ h => ⟨h.1, R.mono e h.2⟩⟩⟩
def lookM (kvs : List (κ × α)) (k : κ) : Option α := (kvs.find? fun q => decide (q.1 = k)).map (·.2)
def putM (kvs : List (κ × α)) (k : κ) (x : α) : List (κ × α) := if (kvs.any fun q => decide (q.1 = k)) = true then kvs.map (fun q => if q.1 = k then (q.1, x) else q) else kvs ++ [(k, x)]
end
end Sim

/-! displays and making of objects, opened -/
namespace Sim
open PySem L2 Evl
section
variable {K : PySem.W.Frag} {C : Addr} {σ : L2.St} {G0 H0 G H G2 H2 W : Hp} {ls : List Addr} {cs : Cs} {l : Addr} {ta : TA} {sp : Sp} {dvs : List V} {X : XK} {Q : VK} {α β ι : Type} {R : Rep α} {S : Rep β} {A : AR ι}
end
end Sim

/-! slices of lists, f-strings, join -/
namespace Sim
open PySem L2 Evl
section
variable {K : PySem.W.Frag} {σ : L2.St} {G H W : Hp} {te to : TE} {tl th : TO} {α : Type} {R : Rep α}
/-! f-strings -/
/-! join -/
/-! p[0], p[1] with effects; a cell's element -/
variable {G0 H0 : Hp} {ls : List Addr} {cs : Cs} {l : Addr} {β : Type} {S : Rep β}
/-! C(.., cell, ..) of a class with slots, the cell only read -/
variable {κ ι : Type} {B : Rep κ} {C : Addr} {A : AR ι} {fl : α → Ps} {ad : ι → Addr} {ys : List κ} {ta : TA}
/-! comprehensions over a lent list -/
section
variable {γ : Type} {T : Rep γ} {wi : TI} {g : TG} {tt : TT}
end
/-! what is never reached -/
end
end Sim

/-! for .. in zip(tuple, tuple) -/
namespace Sim
open PySem L2 Evl
section
variable {K : PySem.W.Frag} {σ : L2.St} {G0 H0 G H W : Hp} {ls : List Addr} {cs : Cs} {ta : TA} {α β : Type} {R : Rep α} {S : Rep β} {D : Ends} {tu tz : TS} {g : TG}
/-! displays of lists, sums of lists, opened -/
end
end Sim

/-! an object called: x(..), x of an own class with __call__ -/
namespace PySem.W
open PySem PySem.Spec PySem.Calls PyProof.Rows
end PySem.W
namespace L2
open PySem PySem.Spec PyProof.Rows
section
variable {X : Cx} {CX : CXT} {k i : Nat} {f C : Addr} {fd : FuncData} {ps : List Str} {sp : Sp} {E : St → XK} {x : Str} {p pos : Pos} {e : Expr} {es : List Expr} {t : TA}
end
end L2

set_option maxHeartbeats 4000000
/-! own classes: an __init__ whose first statement is super().__init__(..), over an own class's __init__ -/
namespace Sim
open PySem PySem.Spec PyProof.Rows L2 PySem.W PySem.Calls NdefX
/-- what the written part says of such an __init__, written in the class at D, of an instance of the class at C -/
structure SupP (P : Program) (K : Frag) (mg : Str → Option Value) (D C f g : Addr) (fd : FuncData) (F : NF) (ps : List Str) (dvs : List V) : Prop where
  lk : ∃ oc od osl dV kV doc pm an ct, fd = PySem.W.fnX F.name F.qual F.params F.body F.scope F.cl dV kV doc pm an (.ref F.c) ct ∧ K.lookup f = some ⟨oc, od, .func fd, osl⟩ ∧ DflV K dV dvs
  cd : PySem.W.codeIn K (.ref F.c) F.qual = true
  cl : ∃ cc oc od osl, F.cl = [(("__class__" : Str), cc)] ∧ K.lookup cc = some ⟨oc, od, .cell (some (.ref D)), osl⟩
  par : ∃ ar ps', (F.params.posonlyargs ++ F.params.args).head? = some ar ∧ ps = ar.arg :: ps' ∧ (F.scope.names.lookup ar.arg = some .local ∨ F.scope.names.lookup ar.arg = some .cell)
  code : ∃ ccl cdd vs ccs file tf, K.lookup F.c = some ⟨ccl, cdd, .fields vs, ccs⟩ ∧ vs[2]? = some (.str file tf) ∧ ((P.main.file : Str) == file) = true
  cls : ∃ cdD, clsIn K D = some cdD
  clsC : ∃ cdC, clsIn K C = some cdC
  sub : mroIn K C (.ref D) = some true
  ks : F.scope.names.lookup ("super" : Str) = some .globalImplicit
  kc : F.scope.names.lookup ("__class__" : Str) = some .free
  mg : mg "super" = none
  top : (P.main.scope.names.lookup ("super" : Str)).isSome = false
  opq : nsIn K cStatics "thirdparty.any" = some none
  sup : ks_superIn K C D "__init__" = some (some (.ref g))
  gt : typeIn K (.ref g) = some (.type "function")
  gf : fnIn K g = true
/-- what the written part says of a def named nm, written in the class at D, of an instance of the class at C, whose super() finds g -/
structure SupM (P : Program) (K : Frag) (mg : Str → Option Value) (D C f g : Addr) (nm : Str) (fd : FuncData) (F : NF) (ps : List Str) (dvs : List V) : Prop where
  lk : ∃ oc od osl dV kV doc pm an ct, fd = PySem.W.fnX F.name F.qual F.params F.body F.scope F.cl dV kV doc pm an (.ref F.c) ct ∧ K.lookup f = some ⟨oc, od, .func fd, osl⟩ ∧ DflV K dV dvs
  cd : PySem.W.codeIn K (.ref F.c) F.qual = true
  cl : ∃ cc oc od osl, F.cl = [(("__class__" : Str), cc)] ∧ K.lookup cc = some ⟨oc, od, .cell (some (.ref D)), osl⟩
  par : ∃ ar ps', (F.params.posonlyargs ++ F.params.args).head? = some ar ∧ ps = ar.arg :: ps' ∧ (F.scope.names.lookup ar.arg = some .local ∨ F.scope.names.lookup ar.arg = some .cell)
  code : ∃ ccl cdd vs ccs file tf, K.lookup F.c = some ⟨ccl, cdd, .fields vs, ccs⟩ ∧ vs[2]? = some (.str file tf) ∧ ((P.main.file : Str) == file) = true
  cls : ∃ cdD, clsIn K D = some cdD
  clsC : ∃ cdC, clsIn K C = some cdC
  sub : mroIn K C (.ref D) = some true
  ks : F.scope.names.lookup ("super" : Str) = some .globalImplicit
  kc : F.scope.names.lookup ("__class__" : Str) = some .free
  mg : mg "super" = none
  top : (P.main.scope.names.lookup ("super" : Str)).isSome = false
  opq : nsIn K cStatics "thirdparty.any" = some none
  sup : ks_superIn K C D nm = some (some (.ref g))
  gt : typeIn K (.ref g) = some (.type "function")
  gf : fnIn K g = true
theorem SupP.m {P : Program} {K : Frag} {mg : Str → Option Value} {D C f g : Addr} {fd : FuncData} {F : NF} {ps : List Str} {dvs : List V} (h : SupP P K mg D C f g fd F ps dvs) : SupM P K mg D C f g "__init__" fd F ps dvs :=
  ⟨h.lk, h.cd, h.cl, h.par, h.code, h.cls, h.clsC, h.sub, h.ks, h.kc, h.mg, h.top, h.opq, h.sup, h.gt, h.gf⟩
theorem SupM.p {P : Program} {K : Frag} {mg : Str → Option Value} {D C f g : Addr} {fd : FuncData} {F : NF} {ps : List Str} {dvs : List V} (h : SupM P K mg D C f g "__init__" fd F ps dvs) : SupP P K mg D C f g fd F ps dvs :=
  ⟨h.lk, h.cd, h.cl, h.par, h.code, h.cls, h.clsC, h.sub, h.ks, h.kc, h.mg, h.top, h.opq, h.sup, h.gt, h.gf⟩
section
variable {CX : CXT} {P : Program} {w : World} {K : PySem.W.Frag} {mg : Str → Option Value} {base : Heap} {N ps psg : List Str} {F : NF} {C D f g : Addr} {fd fdg : FuncData} {k : Nat} {sp spg : Sp} {e : Expr} {es : List Expr} {rest : List Stmt} {p0 p1 p2 p3 p4 : Pos} {pl : Sem Bool}
end
end Sim

/-! askers: objects whose field `asks` holds a list that is changed; that list is a cell of the caller -/
namespace Sim
open PySem L2 Evl
section
variable {K : PySem.W.Frag} {C : Addr} {σ : L2.St} {G0 H0 G H G2 H2 W : Hp} {ls : List Addr} {cs : Cs} {l : Addr} {ta : TA} {te : TE} {X : XK} {α β κ ι : Type} {R : Rep α} {S : Rep β} {T : Rep α} {B : Rep κ} {A : AR ι} {D : Ends} {tz : TS} {ns : List Str}
end
end Sim

/-! the hook with an __init__ that calls super().__init__ of an own class -/
namespace Sim
section
open PySem PySem.Spec PyProof.Rows L2 PySem.W PySem.Calls NdefX
/-- an __init__ that calls super().__init__ of an own class: written in cls, of instances of inst, the other one in base -/
structure SpD where
  cls : Str
  inst : Str
  base : Str
  qual : Str
  params : Arguments
  body : List Stmt
  scope : Scope
  dfl : List He.Dv := []
  m : Str := "__init__"
def mAd (K : Frag) (x m : Str) : Addr := He.ma K (He.ga K x) m
def fnYm (K : Frag) (x m : Str) : FnY := match K.lookup (mAd K x m) with
  | some ⟨_, _, .func fd, _⟩ => some (fd.qualname, fd.params, fd.body, fd.scope, fd.globals, fd.closure.map (·.1), fd.builtins)
  | _ => none
def SpD.x (d : SpD) : XcD := ⟨d.cls, d.qual, d.params, d.body, d.scope⟩
def SpD.val (d : SpD) : FnY := d.x.val
def SpD.fdB (K : Frag) (file : Str) (d : SpD) : Bool := match K.lookup (mAd K d.cls d.m) with
  | some ⟨_, _, .func fd, _⟩ => (match fd.closure with
    | [(_, cc)] => (match K.lookup cc with
      | some ⟨_, _, .cell (some (.ref D)), _⟩ => D == He.ga K d.cls
      | _ => false)
    | _ => false) && (match fd.code with
    | .ref cda => codeIn K (.ref cda) d.qual && (match K.lookup cda with
      | some ⟨_, _, .fields vs, _⟩ => (match (vs[2]? : Option Value) with
        | some (.str fl _) => fl == file
        | _ => false)
      | _ => false)
    | _ => false) && (decide (fd.name = d.m) && He.dflB K fd.defaults (d.dfl.map (He.Dv.v K)))
  | _ => false
def SpD.ok (K : Frag) (file : Str) (d : SpD) : Bool := d.fdB K file && ((clsIn K (He.ga K d.inst)).isSome && ((clsIn K (He.ga K d.cls)).isSome && (decide (mroIn K (He.ga K d.inst) (.ref (He.ga K d.cls)) = some true) &&
  (decide (nsIn K cStatics "thirdparty.any" = some none) && (decide (ks_superIn K (He.ga K d.inst) (He.ga K d.cls) d.m = some (some (.ref (mAd K d.base d.m)))) && (decide (typeIn K (.ref (mAd K d.base d.m)) = some (.type "function")) &&
  (fnIn K (mAd K d.base d.m) && decide (mAd K d.inst d.m = mAd K d.cls d.m))))))))
theorem SpD.knownM {P : Program} {K : Frag} {mg : Str → Option Value} {d : SpD} (e : fnYm K d.cls d.m = d.val) (c : d.ok K P.main.file = true) (hmg : mg "super" = none) (htop : (P.main.scope.names.lookup ("super" : Str)).isSome = false)
    (hks : d.scope.names.lookup ("super" : Str) = some .globalImplicit) (hkc : d.scope.names.lookup ("__class__" : Str) = some .free) {ar : Arg} {ars : List Arg} (hpa : d.params.posonlyargs ++ d.params.args = ar :: ars) (hka : d.scope.names.lookup ar.arg = some .local ∨ d.scope.names.lookup ar.arg = some .cell) :
    ∃ fd cc c, SupM P K mg (He.ga K d.cls) (He.ga K d.inst) (mAd K d.cls d.m) (mAd K d.base d.m) d.m fd ⟨d.m, d.qual, d.params, d.body, d.scope, [("__class__", cc)], c⟩ ((d.params.posonlyargs ++ d.params.args).map (·.arg)) (d.dfl.map (He.Dv.v K)) := by
  unfold SpD.ok at c
  obtain ⟨c0, c⟩ := He.ba c
  obtain ⟨c1, c⟩ := He.ba c
  obtain ⟨c2, c⟩ := He.ba c
  obtain ⟨c3, c⟩ := He.ba c
  obtain ⟨c4, c⟩ := He.ba c
  obtain ⟨c5, c⟩ := He.ba c
  obtain ⟨c6, c⟩ := He.ba c
  obtain ⟨c7, c8⟩ := He.ba c
  unfold SpD.fdB at c0
  unfold fnYm at e
  cases q : K.lookup (mAd K d.cls d.m) with
  | none => rw [q] at c0; cases c0
  | some o =>
    obtain ⟨oc, od, dt, osl⟩ := o
    rw [q] at c0 e
    cases dt with
    | func fd =>
      obtain ⟨n1, n2, n3, n4, n5, n6, n7, n8, n9, n10, n11, n12, n13, n14, n15⟩ := fd
      have e2 : (some (n2, n3, n4, n5, n6, n7.map (·.1), n15) : FnY) = (some (d.qual, d.params, .stmts d.body, d.scope, mainGlobals, ["__class__"], builtinsNs) : FnY) := e
      simp only [Option.some.injEq, Prod.mk.injEq] at e2
      obtain ⟨h2, h3, h4, h5, h6, h7, h8⟩ := e2
      subst h2 h3 h4 h5 h6 h8
      dsimp only at c0
      obtain ⟨kab, kc⟩ := He.ba c0
      obtain ⟨kA, kB⟩ := He.ba kab
      obtain ⟨kc, kd⟩ := He.ba kc
      have kc := of_decide_eq_true kc
      subst kc
      clear kab c0
      have kd := He.dflB_ok kd
      cases n7 with
      | nil => cases h7
      | cons p r =>
        cases r with
        | cons _ _ => simp at h7
        | nil =>
          obtain ⟨nm, cc⟩ := p
          have hn : nm = ("__class__" : Str) := by
            simp only [List.map_cons, List.map_nil, List.cons.injEq, and_true] at h7
            exact h7
          subst hn
          dsimp only at kA
          cases n13 with
          | ref cda =>
            dsimp only at kB
            obtain ⟨k4, k5⟩ := He.ba kB
            cases qc : K.lookup cc with
            | none => rw [qc] at kA; cases kA
            | some oc2 =>
              obtain ⟨a1, a2, a3, a4⟩ := oc2
              rw [qc] at kA
              cases a3 with
              | cell v =>
                cases v with
                | none => cases kA
                | some v =>
                  cases v with
                  | ref D =>
                    have hD : D = He.ga K d.cls := eq_of_beq kA
                    subst hD
                    cases qd : K.lookup cda with
                    | none => rw [qd] at k5; cases k5
                    | some od2 =>
                      obtain ⟨b1, b2, b3, b4⟩ := od2
                      rw [qd] at k5
                      cases b3 with
                      | fields vs =>
                        dsimp only at k5
                        cases qv : vs[2]? with
                        | none => rw [qv] at k5; cases k5
                        | some v2 =>
                          rw [qv] at k5
                          cases v2 with
                          | str fl tf =>
                            have hfl : fl = P.main.file := eq_of_beq k5
                            subst hfl
                            obtain ⟨cdD, hcd⟩ := Option.isSome_iff_exists.mp c2
                            exact ⟨_, cc, cda, ⟨oc, od, osl, n8, n9, n10, n11, n12, n14, rfl, q, kd⟩, k4, ⟨cc, a1, a2, a4, rfl, qc⟩, ⟨ar, ars.map (·.arg), by rw [hpa]; rfl, by rw [hpa]; rfl, hka⟩, ⟨b1, b2, vs, b4, P.main.file, tf, qd, qv, by simp⟩, ⟨cdD, hcd⟩, Option.isSome_iff_exists.mp c1,
                              of_decide_eq_true c3, hks, hkc, hmg, htop, of_decide_eq_true c4, of_decide_eq_true c5, of_decide_eq_true c6, c7⟩
                          | _ => cases k5
                      | _ => cases k5
                  | _ => cases kA
              | _ => cases kA
          | _ => cases kB
    | _ => cases c0
theorem SpD.known {P : Program} {K : Frag} {mg : Str → Option Value} {d : SpD} (hm : d.m = ("__init__" : Str)) (e : fnYm K d.cls d.m = d.val) (c : d.ok K P.main.file = true) (hmg : mg "super" = none) (htop : (P.main.scope.names.lookup ("super" : Str)).isSome = false)
    (hks : d.scope.names.lookup ("super" : Str) = some .globalImplicit) (hkc : d.scope.names.lookup ("__class__" : Str) = some .free) {ar : Arg} {ars : List Arg} (hpa : d.params.posonlyargs ++ d.params.args = ar :: ars) (hka : d.scope.names.lookup ar.arg = some .local ∨ d.scope.names.lookup ar.arg = some .cell) :
    ∃ fd cc c, SupP P K mg (He.ga K d.cls) (He.ga K d.inst) (xcAd K d.cls) (xcAd K d.base) fd ⟨"__init__", d.qual, d.params, d.body, d.scope, [("__class__", cc)], c⟩ ((d.params.posonlyargs ++ d.params.args).map (·.arg)) (d.dfl.map (He.Dv.v K)) := by
  obtain ⟨fd, cc, c2, Y⟩ := SpD.knownM e c hmg htop hks hkc hpa hka
  rw [hm] at Y
  exact ⟨fd, cc, c2, Y.p⟩
end
open PySem PySem.Spec PyProof.Rows L2 Evl
structure SaysZ (fa : List He.Fa) (fn : List He.DefD) (ex : List (PySem.W.Frag → Bool)) (xs : List XcD) (gs : List GeD) (sp : List SpD) (file : Str) (K : PySem.W.Frag) : Prop where
  s : SaysX fa fn ex xs gs file K
  o : (sp.all fun d => d.ok K file) = true
  v : (sp.map fun d => fnYm K d.cls d.m) = sp.map SpD.val
structure TxZ (fa : List He.Fa) (fn : List He.DefD) (es : List (PySem.W.Frag → Bool)) (xs : List XcD) (gs : List GeD) (sp : List SpD) (file : Str) (K : PySem.W.Frag) (mg : Str → Option Value) : Prop extends TxX fa fn es xs gs file K mg where
  so : (sp.all fun d => d.ok K file) = true
  sv : (sp.map fun d => fnYm K d.cls d.m) = sp.map SpD.val
section
variable {fa : List He.Fa} {fn : List He.DefD} {es : List (PySem.W.Frag → Bool)} {xs : List XcD} {gs : List GeD} {sp : List SpD} {file : Str} {K : PySem.W.Frag} {mg : Str → Option Value}
theorem TxZ.mk' {h : Heap} (KX : K.In h) (G : h.Ns mainGlobals mg) (c : SaysZ fa fn es xs gs sp file K) : TxZ fa fn es xs gs sp file K mg := ⟨TxX.mk' KX G c.s, c.o, c.v⟩
end
end Sim

/-! askers: calls that read the lent list and may raise; loops over a lent list that an expression gives -/
namespace Sim
open PySem L2 Evl
section
variable {K : PySem.W.Frag} {C : Addr} {σ : L2.St} {G0 H0 G H G2 H2 W : Hp} {ls : List Addr} {cs : Cs} {l : Addr} {ta : TA} {X : XK} {te to tl : TE} {α β κ ι γ : Type} {R : Rep α} {S : Rep β} {T : Rep γ} {B : Rep κ} {A : AR ι} {D : Ends} {tz tu : TS} {g : TG} {ns : List Str} {fl : α → List Pd}
/-! ### tests, opened -/
end
end Sim

/-! askers handed to defs; parts of mixed data -/
namespace Sim
open PySem L2 Evl
section
variable {K : PySem.W.Frag} {C : Addr} {σ : L2.St} {G0 H0 G H G2 H2 W : Hp} {ls : List Addr} {cs : Cs} {l : Addr} {ta : TA} {X : XK} {te to tl : TE} {α β κ ι γ : Type} {R : Rep α} {S : Rep β} {T : Rep γ} {B : Rep κ} {A : AR ι} {D : Ends} {tz tu : TS}
/-! mixed data -/
end
end Sim

/-! a field written again -/
namespace Sim
open PySem L2 Evl
section
variable {K : PySem.W.Frag} {C : Addr} {σ : L2.St} {G0 H0 G H : Hp} {ls : List Addr} {cs : Cs} {l : Addr} {te : TE} {β : Type} {S : Rep β} {D : Ends} {tz : TS} {ns : List Str}
end
end Sim

/-! cells of any kind, lent to a def that only reads them -/
namespace Sim
open PySem L2 Evl
section
variable {σ : L2.St} {G0 H0 G H G1 H1 W : Hp} {ls : List Addr} {cs : Cs} {l : Addr} {cp0 : CP} {te : TE} {α β : Type} {R : Rep α} {S : Rep β} {cp : β → CP}
structure LentP (G W : Hp) (l : Addr) (cp : CP) : Prop where
  n : G l = none
  at_ : ∃ o, W l = some o ∧ cp.p G o
theorem LentP.up (L : LentP G W l cp0) (e' : Ex W H) (u : Up G H G1 H1) : LentP G1 H1 l cp0 := by
  obtain ⟨o, h2, h3⟩ := L.at_
  exact ⟨u.nw _ (by rw [e' _ _ h2]; simp) L.n, o, u.hh _ _ (e' _ _ h2), cp0.mono u.gg h3⟩
variable {K : PySem.W.Frag} {C : Addr} {ta : TA} {X : XK} {κ ι δ γ : Type} {A : AR ι} {B : Rep κ} {D : Ends} {tz : TS} {ns : List Str}
/-! dict(d), d a dict -/
end
end Sim

/-! TableAsker: an __init__ with a default; arguments read at the heap itself -/
namespace Sim
open PySem PySem.Spec PyProof.Rows L2 Evl
section
variable {K : PySem.W.Frag} {C : Addr} {σ : L2.St} {G0 H0 G H G2 H2 W : Hp} {ls : List Addr} {cs : Cs} {l : Addr} {ta tb tc : TE} {td : TE} {X : XK} {α β δ κ ι : Type} {R : Rep ι} {S : Rep β} {S2 : Rep δ} {B : Rep κ} {D : Ends} {tz : TS} {ns : List Str}
theorem EC.s {κ : Type} [DecidableEq κ] {kf : κ → Key} {R : Rep α} {m : Option (List (κ × α))} (sc : R.Sc) (e : Ex G W) (h : EC ta σ W W (cM kf R) m) : EC ta σ G W (cM kf R) m := fun x hx H e1 e2 Q q =>
  h x hx H e2 e2 Q fun p H2 G2 np u w => by
    have up : Up G H G H2 := Up.same e1 u.hh
    refine q p H2 G np up ⟨up.gh, fun c hc => ?_, w.nd⟩
    obtain ⟨h1, o, h2, ws, rfl, h4⟩ := w.at_ c hc |> fun z => by
      rw [List.mem_singleton.mp hc] at z
      exact z
    rw [List.mem_singleton.mp hc]
    refine ⟨?_, _, h2, ws, rfl, Paired.mapP h4 fun _ _ q => ⟨q.1, sc q.2⟩⟩
    cases qz : G p with
    | none => rfl
    | some o => rw [e1 p o qz] at np; cases np
end
end Sim

/-! a comprehension whose test changes cells -/
namespace Sim
open PySem L2 Evl
section
variable {K : PySem.W.Frag} {σ : L2.St} {G0 H0 G H : Hp} {ls : List Addr} {cs : Cs} {tl te : TE} {tt : TT} {α γ : Type} {R : Rep α} {T : Rep γ} {D : Ends} {tz : TS}
end
end Sim
namespace Sim
open PySem L2 Evl
section
variable {K : PySem.W.Frag} {σ : L2.St} {G0 H0 G H : Hp} {ls : List Addr} {cs : Cs} {l : Addr} {α κ : Type} [DecidableEq κ] {kf : κ → Key} {R : Rep α} {Q : VK}
end
end Sim

/-! functions made by a lambda; their captured cells laid in the heap as known things -/
namespace LamF
open PySem PySem.Spec PyProof.Rows L2 LamX NdefX
/-- a cell, known as it stands -/
def CelO (o : Obj) : HO := .frz o (.ext fun _ => True)
def unlayH (cs : List (Addr × Obj)) (H : Hp) : Hp := fun a => match cs.lookup a with
  | some _ => none
  | none => H a
section
variable {cs : List (Addr × Obj)} {H H' H0 : Hp} {a : Addr} {o : Obj}
end
section
variable {P : Program} {w : World} {cs : List (Addr × Obj)} {H H' H0 H1 : Hp} {h h' B : Heap} {fs : List Addr}
end
section
variable {P : Program} {w : World} {CX : CXT} {outer : List Env} {H : Hp} {s s' : Shared} {Q : VK} {E : XK} {cs : List (Addr × Obj)}
end
end LamF

/-! lambdas: made, called, handed over -/
namespace LamF
open PySem PySem.Spec PyProof.Rows L2 LamX NdefX
/-- a function that a lambda made -/
structure LF where
  qual : Str
  params : Arguments
  body : Expr
  scope : Scope
  cl : List (Str × Addr)
  c : Addr
abbrev LF.obj (F : LF) (pm ctv : Value) : Obj := PySem.W.kla_obj "<lambda>" F.qual F.params F.body F.scope F.cl pm F.c ctv
def FnL (f : Addr) (F : LF) : HO := .ext fun h => ∃ pm ctv, h.get? f = some (F.obj pm ctv)
/-- the table's codes bear this name -/
structure Cds (H : Hp) (q : Str) (ps : Array Value) : Prop where
  ok : TriplesOk ps.toList
  cd : ∀ (pos : Pos) (cv : Value), codeAmong pos ps.toList = some cv → ∃ c, cv = .ref c ∧ H c = some (CodeO c q)
section
variable {X : Cx} {pins : List (Addr × Obj)} {σ : L2.St} {H : Hp} {s : Shared}
end
/-! ### a call with the own cells of these names laid -/
section
variable {X : Cx} {pins : List (Addr × Obj)} {σ : L2.St} {H : Hp} {s : Shared} {fr : List Str}
theorem mem_look {α β : Type} [BEq α] [LawfulBEq α] : ∀ {l : List (α × β)} {a : α} {b : β}, l.lookup a = some b → (a, b) ∈ l
  | [], _, _, h => by cases h
  | (x, y) :: l, a, b, h => by
    rw [List.lookup_cons] at h
    cases e : a == x with
    | true =>
      rw [e] at h
      cases h
      rw [eq_of_beq e]
      exact List.mem_cons_self ..
    | false => rw [e] at h; exact List.mem_cons_of_mem _ (mem_look h)
theorem look_mem {α β : Type} [BEq α] [LawfulBEq α] : ∀ {l : List (α × β)} {a : α} {b : β}, (a, b) ∈ l → ∃ b', l.lookup a = some b'
  | (x, y) :: l, a, b, h => by
    rw [List.lookup_cons]
    cases e : a == x with
    | true => exact ⟨y, rfl⟩
    | false =>
      rcases List.mem_cons.mp h with z | z
      · cases z
        rw [beq_self_eq_true] at e
        cases e
      · exact look_mem z
end
section
variable {X : Cx} {pins : List (Addr × Obj)} {σ : L2.St} {H : Hp} {s : Shared} {fr : List Str} {cs : List (Addr × Obj)}
end
section
variable {X : Cx} {CX : CXT} {k : Nat} {f : Addr} {fd : FuncData} {ps : List Str} {sp : Sp} {E : L2.St → XK} {x : Str} {p pos : Pos} {e : Expr} {es : List Expr} {t : TA} {fr : List Str}
end
end LamF

/-! functions made by a lambda: called; handed back by a def -/
namespace LamF
open PySem PySem.Spec PyProof.Rows L2 LamX NdefX
/-- the function F stands at f, its captured names fr hold us -/
structure Clos (H : Hp) (f : Addr) (F : LF) (fr : List Str) (us : List V) : Prop where
  at_ : H f = some (FnL f F)
  co : H F.c = some (CodeO F.c F.qual)
  ce : ∀ (i : Nat) (y : Str), fr[i]? = some y → ∃ c o u v, F.cl.lookup y = some c ∧ H c = some (CelO o) ∧ o.data = .cell (some u) ∧ us[i]? = some v ∧ RelV v u
  only : ∀ y c, F.cl.lookup y = some c → y ∈ fr
  inj : ∀ x y c, F.cl.lookup x = some c → F.cl.lookup y = some c → x = y
  ln : us.length = fr.length
theorem Clos.ex {H H' : Hp} {f : Addr} {F : LF} {fr : List Str} {us : List V} (c : Clos H f F fr us) (e : ∀ a o, H a = some o → H' a = some o) : Clos H' f F fr us :=
  ⟨e _ _ c.at_, e _ _ c.co, fun i y h => let ⟨a, o, u, v, h1, h2, h3⟩ := c.ce i y h; ⟨a, o, u, v, h1, e _ _ h2, h3⟩, c.only, c.inj, c.ln⟩
/-- its cells as they stand -/
def celsH (F : LF) (fr : List Str) (H : Hp) : List (Addr × Obj) := fr.filterMap fun y => F.cl.lookup y >>= fun c => match H c with
  | some (.frz o _) => some (c, o)
  | _ => none
section
variable {H : Hp} {f : Addr} {F : LF} {fr : List Str} {us : List V}
theorem Clos.mem (C : Clos H f F fr us) {c : Addr} {o : Obj} (e : (celsH F fr H).lookup c = some o) : H c = some (CelO o) ∧ ∃ (i : Nat) (y : Str), fr[i]? = some y ∧ F.cl.lookup y = some c := by
  obtain ⟨y, hy, e⟩ := List.mem_filterMap.mp (mem_look e)
  obtain ⟨i, hi⟩ := List.getElem?_of_mem hy
  obtain ⟨c1, o1, u, v, h1, h2, h3⟩ := C.ce i y hi
  rw [h1] at e
  simp only [Option.bind_eq_bind, Option.bind_some] at e
  rw [h2] at e
  cases e
  exact ⟨h2, i, y, hi, h1⟩
end
/-- a thing that can be called: what its call promises -/
def CalOk (P : Program) (w : World) (K : PySem.W.Frag) (mg : Str → Option Value) (base : Heap) (CX : CXT) (k : Nat) (f : Addr) (sp : Sp) : Prop :=
  ∀ (A : Around) (outer : List Env) (s : Shared) (H : Hp) (us : List Value) (vs : List V) (Q : VK) (E : XK), Room k A → Env0 P w K mg base A outer s H → Vals vs us → sp vs H Q E → codeAny (model P w) A (.call (.ref f) ⟨us, []⟩) (CR CX outer P w H s Q E) s
theorem CalOk.mono {P : Program} {w : World} {K : PySem.W.Frag} {mg : Str → Option Value} {base : Heap} {CX : CXT} {j k : Nat} {f : Addr} {sp : Sp} (h : CalOk P w K mg base CX j f sp) (hjk : j ≤ k) : CalOk P w K mg base CX k f sp :=
  fun A outer s H us vs Q E hr => h A outer s H us vs Q E (hr.mono hjk)
theorem CalOk.imp {P : Program} {w : World} {K : PySem.W.Frag} {mg : Str → Option Value} {base : Heap} {CX : CXT} {k : Nat} {f : Addr} {sp sp' : Sp} (h : CalOk P w K mg base CX k f sp) (i : ∀ vs H Q E, sp' vs H Q E → sp vs H Q E) : CalOk P w K mg base CX k f sp' :=
  fun A outer s H us vs Q E hr e0 r q => h A outer s H us vs Q E hr e0 r (i _ _ _ _ q)
section
variable {CX : CXT} {P : Program} {w : World} {K : PySem.W.Frag} {mg : Str → Option Value} {base : Heap} {N ps fr psg : List Str} {F : LF} {f g : Addr} {fdg : FuncData} {k : Nat} {spg : Sp} {x : Str} {e : Expr} {es : List Expr} {p0 pos : Pos} {js : List Nat} {us : List V}
end
/-! ### x(..), x a local name that holds something that can be called -/
/-- an instance, or a function that a lambda made -/
def Cb (H : Hp) (f : Addr) : Prop := (∃ F, H f = some (FnL f F)) ∨ ∃ C dx fs, H f = some (.ins C dx fs)
/-- it stands as before -/
def Cb2 (H H1 : Hp) (f : Addr) : Prop := (∀ F, H f = some (FnL f F) → H1 f = some (FnL f F)) ∧ ∀ C dx fs, H f = some (.ins C dx fs) → ∃ gs, H1 f = some (.ins C dx gs)
theorem Cb2.of {H H1 : Hp} {f : Addr} (e : ∀ o, H f = some o → H1 f = some o) : Cb2 H H1 f := ⟨fun F h => e _ h, fun C dx fs h => ⟨fs, e _ h⟩⟩
section
variable {X : Cx} {CX : CXT} {k i : Nat} {E : L2.St → XK} {x : Str} {p pos : Pos} {e : Expr} {es : List Expr} {t : TA}
end
end LamF

/-! a def that hands back a lambda; defs whose code object is told -/
namespace LamF
open PySem PySem.Spec PyProof.Rows L2 LamX NdefX
/-- the code object of the def at f, its table -/
def codOf (K : PySem.W.Frag) (f : Addr) : Addr := match K.lookup f with
  | some ⟨_, _, .func fd, _⟩ => (match fd.code with
    | .ref c => c
    | _ => 0)
  | _ => 0
def tabOf (K : PySem.W.Frag) (f : Addr) : Addr := match K.lookup (codOf K f) with
  | some ⟨_, _, .fields vs, _⟩ => (match (vs[11]? : Option Value) with
    | some (.ref P) => P
    | _ => 0)
  | _ => 0
section
variable {P : Program} {w : World} {K : PySem.W.Frag} {mg : Str → Option Value} {base : Heap} {x qual : Str} {params : Arguments} {body : List Stmt} {scope : Scope} {f : Addr} {fd : FuncData} {CX : CXT} {N ps : List Str} {k : Nat} {sp : Sp}
end
end LamF

/-! things that are asked: functions and objects called with a name; what they change is a state -/
namespace Sim
open PySem PySem.Spec PyProof.Rows L2 Evl LamX LamF NdefX
theorem Cds.mono {G G' : Hp} {q : Str} {ps : Array Value} (e : Ex G G') (c : Cds G q ps) : Cds G' q ps := ⟨c.ok, fun p cv h => let ⟨a, h1, h2⟩ := c.cd p cv h; ⟨a, h1, e _ _ h2⟩⟩
/-- the table of a def's code object, as a cell -/
def cTab (q : Str) : CP := ⟨fun G o => ∃ ps, o = .tbl ps ∧ Cds G q ps, fun e ⟨ps, h1, h2⟩ => ⟨ps, h1, Cds.mono e h2⟩⟩
/-! ### asked -/
section
variable (P : Program) (w : World) (K : PySem.W.Frag) (mg : Str → Option Value) (base : Heap) (k : Nat)
/-- what asking promises: never raises / may raise -/
def PAsk {κ : Type} (ci : κ → Cs) (ask : κ → Str → Option (Int × κ)) (G0 : Hp) : Sp := fun vs H Q _ => ∃ G s nm x s', vs = [.str nm] ∧ Ex G0 G ∧ Wd G H (ci s) ∧ ask s nm = some (x, s') ∧ ∀ H2 G2, Fr G H G2 H2 ((ci s).map (·.1)) → Wd G2 H2 (ci s') → Q (.int x) H2
def PAskX {κ : Type} (ci : κ → Cs) (ask : κ → Str → Option ((Xn ⊕ Int) × κ)) (G0 : Hp) : Sp := fun vs H Q E => ∃ G s nm r s', vs = [.str nm] ∧ Ex G0 G ∧ Wd G H (ci s) ∧ ask s nm = some (r, s') ∧
  (∀ e, r = .inl e → ∀ d H2 G2, Fr G H G2 H2 ((ci s).map (·.1)) → Wd G2 H2 (ci s') → Xat G2 e d → E (.ref (He.ga K e.cls)) (some d) H2) ∧ ∀ x, r = .inr x → ∀ H2 G2, Fr G H G2 H2 ((ci s).map (·.1)) → Wd G2 H2 (ci s') → Q (.int x) H2
structure AskP {κ : Type} (G : Hp) (f : Addr) (ci : κ → Cs) (ask : κ → Str → Option (Int × κ)) : Prop where
  cb : Cb G f
  ok : CalOk P w K mg base CX0 k f (PAsk ci ask G)
  fx : ∀ s s', (ci s).map (·.1) = (ci s').map (·.1)
structure AskX {κ : Type} (G : Hp) (f : Addr) (ci : κ → Cs) (ask : κ → Str → Option ((Xn ⊕ Int) × κ)) : Prop where
  cb : Cb G f
  ok : CalOk P w K mg base (L2.CX P w) k f (PAskX K ci ask G)
  fx : ∀ s s', (ci s).map (·.1) = (ci s').map (·.1)
end
section
variable {P : Program} {w : World} {K : PySem.W.Frag} {mg : Str → Option Value} {base : Heap} {k kk : Nat} {κ : Type} {ci : κ → Cs}
theorem cb_mono {G G' : Hp} {f : Addr} (e : Ex G G') (c : Cb G f) : Cb G' f := c.elim (fun ⟨F, h⟩ => .inl ⟨F, e _ _ h⟩) fun ⟨C, dx, fs, h⟩ => .inr ⟨C, dx, fs, e _ _ h⟩
theorem AskP.mono {ask : κ → Str → Option (Int × κ)} {G G' : Hp} {f : Addr} (e : Ex G G') (a : AskP P w K mg base k G f ci ask) : AskP P w K mg base k G' f ci ask :=
  ⟨cb_mono e a.cb, a.ok.imp fun vs H Q E ⟨G2, s, nm, x, s', h1, h2, h3⟩ => ⟨G2, s, nm, x, s', h1, e.trans h2, h3⟩, a.fx⟩
theorem AskX.mono {ask : κ → Str → Option ((Xn ⊕ Int) × κ)} {G G' : Hp} {f : Addr} (e : Ex G G') (a : AskX P w K mg base k G f ci ask) : AskX P w K mg base k G' f ci ask :=
  ⟨cb_mono e a.cb, a.ok.imp fun vs H Q E ⟨G2, s, nm, x, s', h1, h2, h3⟩ => ⟨G2, s, nm, x, s', h1, e.trans h2, h3⟩, a.fx⟩
variable {G0 H0 G H G2 H2 : Hp} {ls : List Addr} {cs : Cs} {f : Addr} {X : Cx} {σ : L2.St} {i : Nat} {CX : CXT}
end
/-! ### defs that ask -/
section
variable (P : Program) (w : World) (K : PySem.W.Frag) (mg : Str → Option Value) (base : Heap) (k : Nat)
end
/-! ### a function made by a lambda and handed over at once -/
/-- a list cell's content -/
def DnC (cp : CP) : Prop := ∀ {G : Hp} {cs : List (Addr × Obj)} {o : HO}, (∀ c o, cs.lookup c = some o → G c = some (CelO o)) → cp.p G o → cp.p (unlayH cs G) o
section
variable {G0 H0 G H G2 H2 : Hp} {ls : List Addr} {cs : Cs} {cels : List (Addr × Obj)}
end
/-- the data heap behind the making of a function -/
def lamG (G H H1 : Hp) : Hp := fun a => match H a with
  | none => H1 a
  | some _ => G a
section
variable {G0 H0 G H H1 : Hp} {ls : List Addr} {cs : Cs} {Pt fl : Addr} {F : LF} {ps0 ps : Array Value} {j : Nat} {q : Str}
theorem lamG_new {a : Addr} (h : H a = none) : lamG G H H1 a = H1 a := by unfold lamG; rw [h]
theorem lamG_old {a : Addr} {o : HO} (h : H a = some o) : lamG G H H1 a = G a := by unfold lamG; rw [h]
/-- the cells behind the making of a function: the table is written -/
theorem Wo.made (w : Wo G0 H0 ls G H cs) (hc : cs[j]? = some (Pt, cTab q)) (ex : ∀ b o, b ≠ Pt → H b = some o → H1 b = some o) (tb : H1 Pt = some (.tbl ps)) (cd : Cds (lamG G H H1) q ps) : Wo G0 H0 ls (lamG G H H1) H1 cs ∧ Ex G (lamG G H H1) := by
  obtain ⟨gP, oP, hP, _⟩ := w.w.getAt hc
  have eG : Ex G (lamG G H H1) := fun a o h => by
    rw [lamG_old (w.ex a o h)]
    exact h
  have e1 : Ex (lamG G H H1) H1 := fun a o h => by
    cases z : H a with
    | none => rw [lamG_new z] at h; exact h
    | some o2 =>
      rw [lamG_old z] at h
      have h2 := w.ex a o h
      exact ex a o (fun e => by rw [e, gP] at h; cases h) h2
  refine ⟨⟨⟨e1, fun c hm => ?_, w.w.nd⟩, ⟨w.f.gg.trans eG, fun a o h1 h2 => ?_, fun a h1 h2 => ?_, fun a h => ?_⟩, w.lo⟩, eG⟩
  · obtain ⟨h1, o, h2, h3⟩ := w.w.at_ c hm
    refine ⟨by rw [lamG_old h2]; exact h1, ?_⟩
    by_cases e : c.1 = Pt
    · have hcc : c = (Pt, cTab q) := by
        obtain ⟨i, hi⟩ := List.getElem?_of_mem hm
        have a1 : (cs.map (·.1))[i]? = some Pt := by rw [List.getElem?_map, hi, ← e]; rfl
        have a2 : (cs.map (·.1))[j]? = some Pt := by rw [List.getElem?_map, hc]; rfl
        have := nodup_ix w.w.nd a1 a2
        subst this
        rw [hi] at hc
        exact Option.some.inj hc
      rw [hcc]
      exact ⟨_, tb, ps, rfl, cd⟩
    · exact ⟨o, ex _ _ e h2, c.2.mono eG h3⟩
  · refine ex a o (fun e => ?_) (w.f.fr a o h1 h2)
    have hm : (Pt, cTab q) ∈ cs := List.mem_of_getElem? hc
    rcases w.lo _ hm with z | z
    · exact h2 (by rw [e]; exact z)
    · rw [e] at h1
      rw [show H0 Pt = none from z] at h1
      cases h1
  · have h3 := w.f.nw a h1 h2
    have h4 := w.f.st a h1
    cases z : H a with
    | none => exact absurd z h4
    | some o => rw [lamG_old z]; exact h3
  · have h4 := w.f.st a h
    cases z : H a with
    | none => exact absurd z h4
    | some o =>
      by_cases e : a = Pt
      · rw [e, tb]; simp
      · rw [ex a o e z]; simp
end
end Sim

/-! x = f(.., lambda ..): the function asks a list of the def's own -/
namespace Sim
open PySem PySem.Spec PyProof.Rows L2 Evl LamX LamF NdefX
section
variable {X : Cx} {kk : Nat} {σ : L2.St} {G0 H0 G H : Hp} {ls : List Addr} {cs : Cs} {ta : TA} {ι α γ : Type} {A : AR ι} {R : Rep γ} {Ra : Rep α} {D : Ends} {tz : TS}
end
end Sim

/-! calls that change cells at any places; the tail of the cells; lambdas handed over, printed by gen.py -/
namespace Sim
open PySem PySem.Spec PyProof.Rows L2 Evl LamX LamF NdefX
section
variable {σ : L2.St} {G0 H0 G H G2 H2 : Hp} {ls : List Addr} {cs : Cs}
/-! ### the tail -/
variable {P : Program} {w : World} {K : PySem.W.Frag} {mg : Str → Option Value} {base : Heap} {k : Nat} {κ : Type} {ci : κ → Cs} {f : Addr}
/-- where the captured names stand -/
def FrAt (X : Cx) (σ : L2.St) : List Str → List V → Prop
  | [], [] => True
  | y :: fr, u :: us => (∃ jx : Nat, X.N[jx]? = some y ∧ σ[jx]? = some (some u) ∧ Vis X.env.scope y) ∧ FrAt X σ fr us
  | _, _ => False
theorem FrAt.at_ {X : Cx} : ∀ {fr : List Str} {us : List V}, FrAt X σ fr us → ∀ (n : Nat) (y : Str), fr[n]? = some y → ∃ (jx : Nat) (v : V), X.N[jx]? = some y ∧ σ[jx]? = some (some v) ∧ Vis X.env.scope y ∧ us[n]? = some v
  | [], [], _, n, y, h => by cases h
  | _ :: _, _ :: _, ⟨⟨jx, h1, h2, h3⟩, _⟩, 0, y, h => by cases h; exact ⟨jx, _, h1, h2, h3, rfl⟩
  | _ :: _, _ :: _, ⟨_, hr⟩, n + 1, y, h => FrAt.at_ hr n y h
theorem FrAt.len {X : Cx} : ∀ {fr : List Str} {us : List V}, FrAt X σ fr us → us.length = fr.length
  | [], [], _ => rfl
  | _ :: _, _ :: _, ⟨_, h⟩ => congrArg (· + 1) (FrAt.len h)
end
end Sim

/-! the hook with tables of code objects; the law's end with tables -/
namespace Sim
open PySem PySem.Spec PyProof.Rows L2 Evl LamX LamF NdefX
/-- a def with lambdas: its code object, its table, the lambda's qualified name -/
structure TbD where
  at_ : Str × Option Str
  q : Str
def TbD.c (K : PySem.W.Frag) (d : TbD) : Addr × Addr := (codOf K (He.fAd K d.at_), tabOf K (He.fAd K d.at_))
end Sim

/-! a for over a list that is a cell and stays as it is; and in a test that changes cells -/
namespace Sim
open PySem L2 Evl
section
variable {K : PySem.W.Frag} {σ : L2.St} {G0 H0 G H G2 H2 : Hp} {ls : List Addr} {cs : Cs} {l : Addr} {cp cp' : CP} {tu tz : TS} {t u : TT} {g : TG} {D : Ends} {α : Type} {R : Rep α}
def DnAll : Cs → Prop
  | [] => True
  | c :: cs => DnC c.2 ∧ DnAll cs
theorem DnAll.at_ : ∀ {cs : Cs}, DnAll cs → ∀ c ∈ cs, DnC c.2
  | _ :: _, ⟨h1, h2⟩, c, h => by
    rcases List.mem_cons.mp h with e | e
    · rw [e]; exact h1
    · exact DnAll.at_ h2 c e
end
end Sim

/-! sides: values that are called with what is asked -/
namespace LamF
open PySem PySem.Spec PyProof.Rows L2 LamX NdefX
section
variable {X : Cx} {CX : CXT} {k : Nat} {pins : List (Addr × Obj)} {σ : L2.St} {H : Hp} {s : Shared} {a C dx : Addr} {fs : List (Str × V)} {v : V} {A : Around} {E : Value → Shared → Prop}
/-- what can be called: an instance, a function of a lambda, a def -/
def Cbk (K : PySem.W.Frag) (H : Hp) (f : Addr) : Prop := Cb H f ∨ PySem.W.keepIn K (.ref f) = true
end
end LamF
namespace Sim
open PySem PySem.Spec PyProof.Rows L2 Evl LamX LamF NdefX
/-! ### an object with an attribute -/
def rAt {β : Type} (K : PySem.W.Frag) (S : Rep β) (f : Str) : Rep β := ⟨fun G v x => ∃ a C dx fs u, v = .ref a ∧ G a = some (.ins C dx fs) ∧ Cls K C ∧ NoAttr K C f ∧ fs.lookup f = some u ∧ S.r G u x,
  fun e ⟨a, C, dx, fs, u, h1, h2, h3, h4, h5, h6⟩ => ⟨a, C, dx, fs, u, h1, e _ _ h2, h3, h4, h5, S.mono e h6⟩⟩
theorem cbk_mono {K : PySem.W.Frag} {G G2 : Hp} {f : Addr} (e : Ex G G2) (h : Cbk K G f) : Cbk K G2 f := h.elim (fun z => .inl (cb_mono e z)) .inr
/-! ### sides -/
section
variable (P : Program) (w : World) (K : PySem.W.Frag) (mg : Str → Option Value) (base : Heap) (j : Nat)
/-- what calling a side with the thing asked promises; o: the order of the thing asked -/
def PSd {ω : Type} (rO : Rep ω) (sem : ∀ {κ : Type}, (κ → Str → Option ((Xn ⊕ Int) × κ)) → ω → κ → Option ((Xn ⊕ Int) × κ)) (G0 : Hp) : Sp := fun vs H Q E => ∃ (κ : Type) (ci : κ → Cs) (ask : κ → Str → Option ((Xn ⊕ Int) × κ)) (G : Hp) (fk : Addr) (o : ω) (s : κ) (r : Xn ⊕ Int) (s' : κ),
  vs = [.ref fk] ∧ Ex G0 G ∧ (rAt K rO "order").r G (.ref fk) o ∧ AskX P w K mg base j G fk ci ask ∧ Wd G H (ci s) ∧ sem ask o s = some (r, s') ∧
  (∀ e, r = .inl e → ∀ d H2 G2, Fr G H G2 H2 ((ci s).map (·.1)) → Wd G2 H2 (ci s') → Xat G2 e d → E (.ref (He.ga K e.cls)) (some d) H2) ∧ ∀ x, r = .inr x → ∀ H2 G2, Fr G H G2 H2 ((ci s).map (·.1)) → Wd G2 H2 (ci s') → Q (.int x) H2
structure SideOk {ω : Type} (rO : Rep ω) (k : Nat) (G : Hp) (f : Addr) (sem : ∀ {κ : Type}, (κ → Str → Option ((Xn ⊕ Int) × κ)) → ω → κ → Option ((Xn ⊕ Int) × κ)) : Prop where
  cb : Cbk K G f
  ok : CalOk P w K mg base (L2.CX P w) k f (PSd P w K mg base j rO (fun a => sem a) G)
end
section
variable {P : Program} {w : World} {K : PySem.W.Frag} {mg : Str → Option Value} {base : Heap} {j k kk : Nat} {κ ω : Type} {ci : κ → Cs} {G0 H0 G H G2 H2 : Hp} {ls : List Addr} {cs : Cs} {f fk : Addr} {rO : Rep ω} {σ : L2.St}
variable {sem : ∀ {κ : Type}, (κ → Str → Option ((Xn ⊕ Int) × κ)) → ω → κ → Option ((Xn ⊕ Int) × κ)}
theorem SideOk.mono (e : Ex G G2) (h : SideOk P w K mg base j rO k G f (fun a => sem a)) : SideOk P w K mg base j rO k G2 f (fun a => sem a) :=
  ⟨cbk_mono e h.cb, h.ok.imp fun vs H Q E ⟨κ, ci, ask, G, fk, o, s, r, s', a1, a2, a3⟩ => ⟨κ, ci, ask, G, fk, o, s, r, s', a1, e.trans a2, a3⟩⟩
end
end Sim

/-! what sides are: objects, lambdas, defs; things that are asked: objects, lambdas -/
namespace Sim
open PySem PySem.Spec PyProof.Rows L2 Evl LamX LamF NdefX
section
variable {P : Program} {w : World} {K : PySem.W.Frag} {mg : Str → Option Value} {base : Heap} {j k kk : Nat} {κ ω : Type} {ci : κ → Cs} {G0 H0 G H G2 H2 : Hp} {ls : List Addr} {cs : Cs} {f fk a C f0 : Addr} {rO : Rep ω} {σ : L2.St} {fd : FuncData} {ps : List Str}
end
section
variable {X : Cx} {kk : Nat} {σ : L2.St} {G0 H0 G H : Hp} {ls : List Addr} {cs : Cs} {ta : TA} {ι α γ : Type} {A : AR ι} {R : Rep γ} {Ra : Rep α} {D : Ends} {tz : TS}
end
end Sim

/-! methods whose arguments change cells; a call that hands on what is asked and may raise -/
namespace Sim
open PySem PySem.Spec PyProof.Rows L2 Evl LamX LamF NdefX
section
variable {P : Program} {w : World} {K : PySem.W.Frag} {mg : Str → Option Value} {base : Heap} {j k kk : Nat} {κ ω α β : Type} {ci : κ → Cs} {G0 H0 G H G2 H2 W : Hp} {ls : List Addr} {cs : Cs} {f fk a C f0 : Addr} {rO : Rep ω} {σ : L2.St} {fd : FuncData} {ps ns : List Str} {to : TE} {ta : TA}
end
end Sim

/-! a | b of two own classes with the same method -/
namespace PySem.W
open PySem PySem.Spec PyProof.Rows PySem.Calls
variable {prog : Program} {w : World} {A : Around} {E : Value → Shared → Prop} {s : Shared} {K : Frag} {x C D L f g : Addr} {h₀ : Heap} {m : Str → Option Value} {ox : Obj} {od : Option Obj}
end PySem.W
namespace L2
open PySem PySem.Spec PyProof.Rows
section
variable {X : Cx} {CX : CXT} {k : Nat} {f C : Addr} {fd : FuncData} {ps : List Str} {sp : Sp} {pins : List (Addr × Obj)} {σ : St} {H : Hp} {s : Shared} {ta tb : TE}
end
end L2
namespace Sim
open PySem PySem.Spec PyProof.Rows L2 Evl LamX LamF NdefX
end Sim

/-! reversed; values that are an int or a text -/
namespace Sim
open PySem PySem.Spec PyProof.Rows L2 Evl
section
variable {K : PySem.W.Frag} {σ : L2.St} {G0 H0 G H G2 H2 W : Hp} {ls : List Addr} {cs : Cs} {ta : TA} {te : TE} {α β : Type} {R : Rep α} {D : Ends} {tu tz : TS} {g : TG}
end
end Sim

/-! a def that hands back a lambda: its function, told of the data heap -/
namespace Sim
open PySem PySem.Spec PyProof.Rows L2 Evl LamX LamF NdefX
section
variable {P : Program} {w : World} {K : PySem.W.Frag} {mg : Str → Option Value} {base : Heap} {CX : CXT} {k j : Nat} {f Pt : Addr} {fd : FuncData} {ps fr : List Str} {q : Str} {lp : Arguments} {lb : Expr} {lsc : Scope} {ws : List V → List V} {tb : Cs}
end
end Sim

/-! askers asked where nothing is raised; their cell at any place -/
namespace Sim
open PySem PySem.Spec PyProof.Rows L2 Evl LamX LamF NdefX
section
variable {P : Program} {w : World} {K : PySem.W.Frag} {mg : Str → Option Value} {base : Heap} {k : Nat} {κ : Type} {ci : κ → Cs} {G0 H0 G H G2 H2 Gq Hq : Hp} {ls : List Addr} {cs csq : Cs} {fk : Addr} {σ : L2.St}
end
end Sim

/-! a lambda whose body asks its own parameter -/
namespace LamF
open PySem PySem.Spec PyProof.Rows L2 LamX NdefX
section
variable {CX : CXT} {P : Program} {w : World} {K : PySem.W.Frag} {mg : Str → Option Value} {base : Heap} {N ps fr : List Str} {F : LF} {f : Addr} {k i : Nat} {x : Str} {e : Expr} {es : List Expr} {p pos : Pos} {us : List V}
end
end LamF

/-! what asks in a lambda's body -/
namespace Sim
open PySem PySem.Spec PyProof.Rows L2 Evl LamX LamF NdefX
section
variable {P : Program} {w : World} {K : PySem.W.Frag} {mg : Str → Option Value} {base : Heap} {N ps fr : List Str} {F : LF} {f fk : Addr} {k i jn : Nat} {us : List V} {G G2 H H2 : Hp} {κ : Type} {ci : κ → Cs} {σ : L2.St}
end
end Sim

/-! a def called at the slots, opened; a global name as data -/
namespace Sim
open PySem PySem.Spec PyProof.Rows L2 Evl
section
variable {σ : L2.St} {G W H : Hp} {α : Type} {R : Rep α}
end
section
variable {K : PySem.W.Frag} {C : Addr} {σ : L2.St} {G0 H0 G H : Hp} {ls : List Addr} {cs : Cs} {X : XK} {α β δ κ ι : Type} {R : Rep ι} {S : Rep β} {S2 : Rep δ} {B : Rep κ} {ns : List Str}
end
end Sim

set_option maxHeartbeats 2000000
/-! in: data in a list, own objects in a list; dicts compared; tuples of several parts -/
namespace GQ
open PySem PySem.SeqAt
open AutoSeq1 (wpAny_loadPart')
open MeetsSeq MeetsSeq2 MeetsSeq3 SeqRoads2
section
variable {prog : Program} {w : World} {A : Around} {R : Result → Shared → Prop}
end
section
variable {prog : Program} {w : World} {A : Around} {E : Value → Shared → Prop} {s : Shared}
end
end GQ
namespace L2
open PySem PySem.Spec PyProof.Rows SlX
section
variable {X : Cx} {k : Nat} {f C : Addr} {fd : FuncData} {ps : List Str} {sp : Sp} {pins : List (Addr × Obj)} {σ : St} {H : Hp} {s : Shared}
end
end L2

set_option maxHeartbeats 2000000
/-! the same, told by mirrors -/
namespace L2
open PySem PySem.Spec PyProof.Rows SlX
end L2

set_option maxHeartbeats 2000000
namespace Sim
open PySem PySem.Spec PyProof.Rows L2 Evl SlX
section
variable {K : PySem.W.Frag} {C : Addr} {σ : L2.St} {G0 H0 G H G2 H2 W Gn Wn : Hp} {ls : List Addr} {cs : Cs} {l : Addr} {ta tb tc tl te ti tk : TE} {tt : TT} {α β δ κ ι γ : Type} {R : Rep α} {S : Rep β} {T : Rep γ} {A : AR ι}
/-! ### what a value stands for is one thing -/
/-! ### x in xs of own objects -/
/-! ### x in xs of data -/
/-! ### dicts of whole numbers compared -/
/-! ### tuples of several parts -/
/-! ### an item of a list cell -/
/-! ### {k: v for k in ks} -/
end
end Sim

/-! what a call gives is new: lists of dicts that are cleared later -/
namespace Sim
open PySem PySem.Spec PyProof.Rows L2 Evl
section
variable {K : PySem.W.Frag} {σ : L2.St} {G0 H0 G H G2 H2 W Gw Hw : Hp} {ls : List Addr} {cs cs0 : Cs} {l : Addr} {te : TE} {α β κ γ : Type} {R : Rep α} {S : Rep β} {D : Ends} {tz : TS}
theorem E.ws {m : Option α} (sc : R.Sc) (e : Ex G W) (h : E te σ G W R m) : E te σ W W R m := fun x hx H e1 e2 Q q =>
  h x hx H (e.trans e1) e1 Q fun v H2 G2 u r => q v H2 W ⟨Ex.refl _, e1.trans u.hh, u.hh, fun _ _ z => z⟩ (sc r)
/-- cells that stay as they are -/
def cEq (o : HO) : CP := ⟨fun _ o' => o' = o, fun _ h => h⟩
def Fixed (G : Hp) (cs cs' : Cs) : Prop := Paired (fun (c c' : Addr × CP) => c.1 = c'.1 ∧ ∃ o, c'.2 = cEq o ∧ c.2.p G o) cs cs'
theorem Fixed.map : ∀ {cs cs' : Cs}, Fixed G cs cs' → cs'.map (·.1) = cs.map (·.1)
  | _, _, .nil => rfl
  | _, _, .cons h t => by rw [List.map_cons, List.map_cons, h.1, Fixed.map t]
theorem Fixed.sc {cs cs' : Cs} (F : Fixed G cs cs') : ∀ c ∈ cs', ∀ o, c.2.p G2 o → c.2.p Gw o := by
  induction F with
  | nil => intro c hc; cases hc
  | cons h t ih =>
    intro c hc o ho
    rcases List.mem_cons.mp hc with rfl | hc
    · obtain ⟨_, o2, e, _⟩ := h
      rw [e] at ho ⊢
      exact ho
    · exact ih c hc o ho
end
section
variable {K : PySem.W.Frag} {σ : L2.St} {G0 H0 G H G2 H2 W : Hp} {ls : List Addr} {cs : Cs} {ta : TA} {α ι : Type} {R : Rep α} {A : AR ι}
end
end Sim

set_option maxHeartbeats 2000000
/-! name = {k: v for ..}: the name is set before the block goes -/
namespace L2
open PySem PySem.Spec PyProof.Rows
open PySem.Calls
section
variable {X : Cx}
end
end L2
namespace Sim
open PySem PySem.Spec PyProof.Rows L2 Evl SlX
section
variable {K : PySem.W.Frag} {C : Addr} {α : Type} {R : Rep α}
end
end Sim

/-! the hook over any choice of addresses; addresses reached, found by marks in one number (no dedup of lists) -/
namespace Sim
open PySem PySem.Spec PyProof.Rows L2 Evl LamX LamF NdefX
end Sim

set_option maxHeartbeats 2000000
/-! a method with defaults, called with all its arguments -/
namespace Sim
open PySem PySem.Spec PyProof.Rows L2 Evl
end Sim

set_option maxHeartbeats 2000000
/-! cells read as data by a call, and taken out of the data again behind it: what the call gave does not lean on them -/
namespace Sim
open PySem PySem.Spec PyProof.Rows L2 Evl SlX
section
variable {D : List Addr} {W Z G G0 H0 H : Hp} {ls : List Addr} {cs : Cs} {σ : L2.St} {te : TE} {α β : Type} {R : Rep α} {S : Rep β} {κ : Type}
/-- without what stands at D -/
def rmL (D : List Addr) (G : Hp) : Hp := fun a => if a ∈ D then none else G a
/-- with what W has at D -/
def adL (D : List Addr) (W G : Hp) : Hp := fun a => if a ∈ D then W a else G a
theorem rm_out {a : Addr} (h : a ∉ D) : rmL D G a = G a := if_neg h
theorem rm_of {a : Addr} {o : HO} (h : G a = some o) (hn : a ∉ D) : rmL D G a = some o := by rw [rm_out hn, h]
/-- the value leans on nothing at D -/
def Off (D : List Addr) (W Z : Hp) (R : Rep α) (x : α) : Prop := ∀ (G : Hp) (v : V), Ex Z G → (∀ a ∈ D, G a = W a) → R.r G v x → R.r (rmL D G) v x
theorem Off.sc (h : R.Sc) (x : α) : Off D W Z R x := fun _ _ _ _ r => h r
/-- a value made while the cells at D were data: without them again -/
theorem E.off {m : Option α} (hD : ∀ a ∈ D, G a = none) (hW : ∀ a ∈ D, W a ≠ none) (ho : ∀ x, m = some x → Off D W (adL D W G) R x) (h : E te σ (adL D W G) W R m) : E te σ G W R m := fun x hx H e e' Q q => by
  refine h x hx H (fun a o ha => ?_) e' Q fun v H2 G2 u r => q v H2 (rmL D G2) ⟨fun a o ha => ?_, fun a o ha => ?_, u.hh, fun a h1 h2 => ?_⟩ (ho x hx G2 v u.gg (fun a ha => ?_) r)
  · unfold adL at ha
    split at ha
    · exact e' a o ha
    · exact e a o ha
  · have hn : a ∉ D := fun z => by rw [hD a z] at ha; cases ha
    exact rm_of (u.gg a o (by unfold adL; rw [if_neg hn]; exact ha)) hn
  · unfold rmL at ha
    split at ha
    · cases ha
    · exact u.gh a o ha
  · unfold rmL
    split
    · rfl
    · rename_i hn
      exact u.nw a h1 (by unfold adL; rw [if_neg hn]; exact h2)
  · cases q : W a with
    | none => exact absurd q (hW a ha)
    | some o => exact u.gg a o (by unfold adL; rw [if_pos ha]; exact q)
/-! ### kinds of values -/
theorem Off.m [DecidableEq κ] {kf : κ → Key} {d : List (κ × α)} (hD : ∀ a ∈ D, ∀ ws, W a ≠ some (.dK ws)) (hs : R.Sc) : Off D W Z (rM kf R) d := fun G v hZ hG ⟨a, ws, h1, h2, h3⟩ => by
  have hn : a ∉ D := fun z => hD a z ws (by rw [← hG a z]; exact h2)
  exact ⟨a, ws, h1, rm_of h2 hn, Paired.mapP h3 fun _ _ h => ⟨h.1, hs h.2⟩⟩
theorem pr_both {P : V → α → Prop} {Q : V → β → Prop} : ∀ {vs : List V} {xs : List α} {ys : List β}, Paired P vs xs → Paired Q vs ys → xs ≠ [] → ∃ v x y, P v x ∧ Q v y ∧ x ∈ xs ∧ y ∈ ys
  | _, _, _, .nil, .nil, h => absurd rfl h
  | _, _, _, .cons h1 t1, .cons h2 t2, _ => ⟨_, _, _, h1, h2, List.mem_cons_self .., List.mem_cons_self ..⟩
/-- no value stands for both -/
def Dsj (R : Rep α) (S : Rep β) : Prop := ∀ {G : Hp} {v : V} {x : α} {y : β}, R.r G v x → S.r G v y → False
/-- a list that is not empty, of things unlike those that the lists at D hold -/
theorem Off.l {xs : List α} (hD : ∀ a ∈ D, ∀ vs, W a = some (.lst vs) → ∃ ys : List β, Paired (S.r Z) vs ys) (hd : Dsj R S) (hne : xs ≠ []) (ho : ∀ x ∈ xs, Off D W Z R x) : Off D W Z (rL R) xs := fun G v hZ hG ⟨a, vs, h1, h2, h3⟩ => by
  have hn : a ∉ D := fun z => by
    obtain ⟨ys, k⟩ := hD a z vs (by rw [← hG a z]; exact h2)
    obtain ⟨v, x, y, r1, r2, _, _⟩ := pr_both h3 (Paired.mapP k fun _ _ => S.mono hZ) hne
    exact hd r1 r2
  have key : ∀ {vs : List V} {xs : List α}, Paired (R.r G) vs xs → (∀ x ∈ xs, Off D W Z R x) → Paired (R.r (rmL D G)) vs xs := by
    intro vs xs h
    induction h with
    | nil => intro _; exact .nil
    | cons h t ih => intro ho; exact .cons (ho _ (List.mem_cons_self ..) G _ hZ hG h) (ih fun x hx => ho x (List.mem_cons_of_mem _ hx))
  exact ⟨a, vs, h1, rm_of h2 hn, key h3 ho⟩
theorem Off.o {x : Option α} (h : ∀ y, x = some y → Off D W Z R y) : Off D W Z (rO R) x := fun G v hZ hG r => by
  cases x with
  | none => exact r
  | some y => exact h y rfl G v hZ hG r
def OffP (D : List Addr) (W Z : Hp) (p : Pd) : Prop := ∀ (G : Hp) (v : V), Ex Z G → (∀ a ∈ D, G a = W a) → p.p G v → p.p (rmL D G) v
theorem Off.obj {C : Addr} {ns : List Str} {fl : α → List Pd} {x : α} (hD : ∀ a ∈ D, ∀ dx fs, W a ≠ some (.ins C dx fs)) (hp : ∀ p ∈ fl x, OffP D W Z p) : Off D W Z (rObj C ns fl) x := fun G v hZ hG ⟨a, dx, fs, h1, h2, h3, h4⟩ => by
  have hn : a ∉ D := fun z => hD a z dx fs (by rw [← hG a z]; exact h2)
  have key : ∀ {vs : List V} {ps : List Pd}, Paired (fun v (q : Pd) => q.p G v) vs ps → (∀ p ∈ ps, OffP D W Z p) → Paired (fun v (q : Pd) => q.p (rmL D G) v) vs ps := by
    intro vs ps h
    induction h with
    | nil => intro _; exact .nil
    | cons h t ih => intro ho; exact .cons (ho _ (List.mem_cons_self ..) G _ hZ hG h) (ih fun x hx => ho x (List.mem_cons_of_mem _ hx))
  exact ⟨a, dx, fs, h1, rm_of h2 hn, h3, key h4 hp⟩
theorem Dsj.l {C : Addr} {fl : β → Ps} : Dsj (rL R) (rSl C fl) := fun ⟨a, vs, h1, h2, _⟩ ⟨b, dx, us, k1, k2, _⟩ => by
  rw [h1] at k1
  cases k1
  rw [h2] at k2
  unfold SlO at k2
  cases k2
theorem Dsj.i {C : Addr} {fl : β → Ps} : Dsj rI (rSl C fl) := fun {_ v x _} h ⟨b, dx, us, k1, _⟩ => by
  have h : v = .int x := h
  rw [h] at k1
  cases k1
theorem Dsj.b {C : Addr} {fl : β → Ps} : Dsj rB (rSl C fl) := fun {_ v x _} h ⟨b, dx, us, k1, _⟩ => by
  have h : v = .bl x := h
  rw [h] at k1
  cases k1
theorem Dsj.o {C : Addr} {fl : β → Ps} (hd : Dsj R (rSl C fl)) : Dsj (rO R) (rSl C fl) := fun {_ v x _} h k => by
  cases x with
  | none =>
    obtain ⟨b, dx, us, k1, _⟩ := k
    have h : v = .non := h
    rw [h] at k1
    cases k1
  | some y => exact hd h k
end
end Sim

set_option maxHeartbeats 2000000
/-! an object that changes, with a list of its own: made, called, read -/
namespace Sim
open PySem PySem.Spec PyProof.Rows L2 Evl SlX
section
variable {K : PySem.W.Frag} {C C2 : Addr} {σ : L2.St} {G0 H0 G H G2 H2 W : Hp} {ls : List Addr} {cs : Cs} {l p : Addr} {ta : TA} {te : TE} {X : XK} {α β κ ι ρ : Type} {R : Rep α} {S : Rep β} {B : Rep κ} {A : AR ι} {D : Ends} {tz : TS} {ns : List Str}
section
variable {i j : Nat} {ps : List Pd} {ys : List κ}
end
end
end Sim

set_option maxHeartbeats 2000000
/-! dicts of data compared; tuples that may be a def's default; an object made with its default -/
namespace L2
open PySem PySem.Spec PyProof.Rows SlX
section
variable {K : PySem.W.Frag} {H : Hp}
end
end L2
namespace Sim
open PySem PySem.Spec PyProof.Rows L2 Evl SlX
section
variable {K : PySem.W.Frag} {C : Addr} {σ : L2.St} {G0 H0 G H G2 H2 W : Hp} {ls : List Addr} {cs : Cs} {l p : Addr} {ta : TA} {te tl : TE} {X : XK} {α β κ ι ρ : Type} {R : Rep α} {S : Rep β} {B : Rep κ} {A : AR ι} {D : Ends} {tz : TS} {ns : List Str}
/-! ### dicts of data -/
/-! ### tuples that may stand among a def's defaults -/
/-! ### a method with its default left out -/
end
end Sim

set_option maxHeartbeats 2000000
/-! objects told by some of their attributes; an object with three new lists of texts (an outlook) -/
namespace Sim
open PySem PySem.Spec PyProof.Rows L2 Evl SlX
section
variable {K : PySem.W.Frag} {C : Addr} {σ : L2.St} {G0 H0 G H G2 H2 W Z : Hp} {D : List Addr} {ls : List Addr} {cs : Cs} {l p x : Addr} {ta : TA} {te to : TE} {X : XK} {α β γ κ ι ρ : Type} {R : Rep α} {S : Rep β} {T : Rep γ} {A : AR ι} {ns all nw : List Str} {fl : α → List (Str × Pd)}
/-! ### all cells become data -/
def frz (G H : Hp) (cs : Cs) : Hp := fun a => if a ∈ cs.map (·.1) then H a else G a
/-! ### the outlook's shape -/
section
variable {α0 α1 : Type} {S0 : Rep α0} {S1 : Rep α1} {g0 : β → α0} {g1 g2 : β → α1} {u1 u2 u3 : β → List Str} {N : Addr → Prop} {f : ι → Option β} {mi : Option ι}
end

/-! ### a paper and a list of texts read as data -/
def NotIt (D : List Addr) (W Z : Hp) (R : Rep α) : Prop := ∀ a ∈ D, ∀ vs, W a = some (.lst vs) → ∀ {G' : Hp} {v : V} {x : α}, v ∈ vs → Ex Z G' → R.r G' v x → False
theorem Off.l2 {xs : List α} (hD : NotIt D W Z R) (hne : xs ≠ []) (ho : ∀ x ∈ xs, Off D W Z R x) : Off D W Z (rL R) xs := fun G v hZ hG ⟨a, vs, h1, h2, h3⟩ => by
  have hn : a ∉ D := fun z => by
    cases h3 with
    | nil => exact hne rfl
    | cons h t => exact hD a z _ (by rw [← hG a z]; exact h2) (List.mem_cons_self ..) hZ h
  have key : ∀ {vs : List V} {xs : List α}, Paired (R.r G) vs xs → (∀ x ∈ xs, Off D W Z R x) → Paired (R.r (rmL D G)) vs xs := by
    intro vs xs h
    induction h with
    | nil => intro _; exact .nil
    | cons h t ih => intro ho; exact .cons (ho _ (List.mem_cons_self ..) G _ hZ hG h) (ih fun x hx => ho x (List.mem_cons_of_mem _ hx))
  exact ⟨a, vs, h1, rm_of h2 hn, key h3 ho⟩
theorem pr_mem {P : V → β → Prop} : ∀ {vs : List V} {ys : List β} {v : V}, Paired P vs ys → v ∈ vs → ∃ y, P v y
  | _, _, _, .cons h t, hm => by
    rcases List.mem_cons.mp hm with rfl | hm
    · exact ⟨_, h⟩
    · exact pr_mem t hm
/-- the lists at D hold what B is, or texts -/
def Lsts (D : List Addr) (W Z : Hp) (B : Rep κ) : Prop := ∀ a ∈ D, ∀ vs, W a = some (.lst vs) → (∃ ys : List κ, Paired (B.r Z) vs ys) ∨ ∃ ys : List Str, Paired (rS.r Z) vs ys
theorem Lsts.not {B : Rep κ} (h : Lsts D W Z B) (d1 : Dsj R B) (d2 : Dsj R rS) : NotIt D W Z R := fun a ha vs e {G' v x} hm hZ r => by
  rcases h a ha vs e with ⟨ys, k⟩ | ⟨ys, k⟩
  · obtain ⟨y, hy⟩ := pr_mem k hm
    exact d1 r (B.mono hZ hy)
  · obtain ⟨y, hy⟩ := pr_mem k hm
    exact d2 r (Rep.mono _ hZ hy)
section
variable {q : Addr} {i j k : Nat} {C2 : Addr} {B : Rep κ} {ys : List κ} {xs : List Str} {ps : List Pd}
end
end
end Sim

set_option maxHeartbeats 4000000
/-! an __init__ whose first statement is super().__init__(..), with own captured names -/
namespace Sim
open PySem PySem.Spec PyProof.Rows L2 PySem.W PySem.Calls NdefX
section
variable {M : Model} {A : Around} {E : Value → Shared → Prop} {s₀ s : Shared} {m cm : Str → Option Value} {env : Env} {own : List (Str × Addr)}
end
section
variable {M : Model} {A : Around} {E : Value → Shared → Prop} {s : Shared}
end
section
variable {CX : CXT} {P : Program} {w : World} {K : Frag} {mg : Str → Option Value} {base : Heap} {N ps psg : List Str} {F : NF} {C D f g : Addr} {fd fdg : FuncData} {k : Nat} {sp spg : Sp} {e : Expr} {es : List Expr} {rest : List Stmt} {p0 p1 p2 p3 p4 : Pos} {pl : Sem Bool}
end
end Sim

set_option maxHeartbeats 2000000
/-! list(reversed(a list)) -/
namespace RT
open PySem PySem.Spec PyProof.Rows
section
variable {prog : Program} {w : World} {A : Around} {E : Value → Shared → Prop} {s : Shared}
end
section
variable {prog : Program} {w : World} {A : Around} {E : Value → Shared → Prop} {s : Shared}
end
end RT
namespace L2
open PySem PySem.Spec PyProof.Rows RT
section
variable {X : Cx}
end
end L2
namespace Sim
open PySem PySem.Spec PyProof.Rows L2 Evl SlX
section
variable {K : PySem.W.Frag} {σ : L2.St} {G H W : Hp} {te : TE} {α : Type} {R : Rep α}
end
end Sim

set_option maxHeartbeats 2000000
/-! a dict walked while it is locked; dicts read whether they are locked or not -/
namespace Sim
open PySem PySem.Spec PyProof.Rows L2 Evl SlX
section
variable {K : PySem.W.Frag} {C : Addr} {σ : L2.St} {G0 H0 G H G2 H2 W : Hp} {ls : List Addr} {cs : Cs} {l p a : Addr} {ta : TA} {te td ti tx : TE} {X : XK} {α β κ ι ρ : Type} {R : Rep α} {S : Rep β} {D : Ends} {tz : TS} {ns all : List Str} {kf : κ → Key} {od : Obj} {ws : List (Key × V)}
section
variable [DecidableEq κ]
end
/-! ### locking keeps what is known -/
end
end Sim

/-! a | b, a of an own class, b of one, too, or a function; pairs of classes; a lambda that asks -/
namespace PySem.W
open PySem PySem.Spec PyProof.Rows PySem.Calls
variable {prog : Program} {w : World} {A : Around} {E : Value → Shared → Prop} {s : Shared} {K : Frag} {x C L f : Addr} {h₀ : Heap} {m : Str → Option Value} {ox : Obj} {od : Option Obj} {T : String}
end PySem.W
namespace L2
open PySem PySem.Spec PyProof.Rows
section
variable {X : Cx} {CX : CXT} {k : Nat} {f C : Addr} {fd : FuncData} {ps : List Str} {sp : Sp} {pins : List (Addr × Obj)} {σ : St} {H : Hp} {s : Shared} {ta tb : TE}
end
end L2
namespace Sim
open PySem PySem.Spec PyProof.Rows L2 Evl LamX LamF NdefX
section
variable {δ γ : Type} {cn : List Str} {nm : String} {D : Str} {K : PySem.W.Frag} {S : Rep δ} {T : Rep γ} {ob : δ → Bool} {σ : L2.St} {G W : Hp} {ta tb te : TE} {ma mb m : Option δ}
end
/-! ### one of two kinds -/
/-! ### lambda ask: ask(nm), as a side -/
section
variable {P : Program} {w : World} {K : PySem.W.Frag} {mg : Str → Option Value} {base : Heap} {fr ps N : List Str} {f : Addr} {F : LF} {G : Hp}
end
end Sim

/-! a dict lent to a making; a reading that may raise where nothing is raised -/
namespace Sim
open PySem PySem.Spec PyProof.Rows L2 Evl LamX LamF NdefX
section
variable {σ : L2.St} {G0 H0 G H G1 H1 W : Hp} {ls : List Addr} {cs : Cs} {l : Addr} {cp0 : CP} {te : TE} {α β ι κ : Type} {R : Rep α} {cp : β → CP} {C : Addr} {A : AR ι} {ns : List Str} {K : PySem.W.Frag} {T : Rep β}
end
end Sim

/-! dict(x), x a list (or a plain tuple) of pairs -/
namespace L2
open PySem PySem.Spec PyProof.Rows
section
variable {X : Cx} {pins : List (Addr × Obj)} {σ : St} {H : Hp} {s : Shared}
end
end L2
namespace Sim
open PySem PySem.Spec PyProof.Rows L2 Evl
section
variable {σ : L2.St} {G0 H0 G H W : Hp} {ls : List Addr} {cs : Cs} {l : Addr} {te : TE} {κ α : Type} [DecidableEq κ] {kf : κ → Key} {Sk : Rep κ} {R : Rep α} {K : PySem.W.Frag}
end
end Sim

/-! sides that are called with an asker whose list of asks is known -/
namespace Sim
open PySem PySem.Spec PyProof.Rows L2 Evl LamX LamF NdefX
abbrev Ql : Type := List (Str × Int)
abbrev AskQ : Type := Ql → Str → Option ((Xn ⊕ Int) × Ql)
def ciQ (la : Addr) : Ql → Cs := fun ys => [(la, cL (rP rS rI) ys)]
/-- the list of what was asked stands at this address -/
def rLa (K : PySem.W.Frag) : Rep Addr := rAt K rA "asks"
section
variable (P : Program) (w : World) (K : PySem.W.Frag) (mg : Str → Option Value) (base : Heap) (j : Nat)
def PSdq {ω : Type} (rO : Rep ω) (sem : AskQ → ω → Ql → Option ((Xn ⊕ Int) × Ql)) (G0 : Hp) : Sp := fun vs H Q E => ∃ (la : Addr) (ask : AskQ) (G : Hp) (fk : Addr) (o : ω) (s : Ql) (r : Xn ⊕ Int) (s' : Ql),
  vs = [.ref fk] ∧ Ex G0 G ∧ ((rAt K rO "order").r G (.ref fk) o ∧ (rLa K).r G (.ref fk) la) ∧ AskX P w K mg base j G fk (ciQ la) ask ∧ Wd G H (ciQ la s) ∧ sem ask o s = some (r, s') ∧
  (∀ e, r = .inl e → ∀ d H2 G2, Fr G H G2 H2 ((ciQ la s).map (·.1)) → Wd G2 H2 (ciQ la s') → Xat G2 e d → E (.ref (He.ga K e.cls)) (some d) H2) ∧ ∀ x, r = .inr x → ∀ H2 G2, Fr G H G2 H2 ((ciQ la s).map (·.1)) → Wd G2 H2 (ciQ la s') → Q (.int x) H2
structure SideOkq {ω : Type} (rO : Rep ω) (k : Nat) (G : Hp) (f : Addr) (sem : AskQ → ω → Ql → Option ((Xn ⊕ Int) × Ql)) : Prop where
  cb : Cbk K G f
  ok : CalOk P w K mg base (L2.CX P w) k f (PSdq P w K mg base j rO sem G)
end
section
variable {P : Program} {w : World} {K : PySem.W.Frag} {mg : Str → Option Value} {base : Heap} {j k kk : Nat} {ω : Type} {G0 H0 G H G2 H2 : Hp} {ls : List Addr} {cs : Cs} {f f0 fk C la : Addr} {rO : Rep ω} {σ : L2.St} {fd : FuncData} {ps : List Str}
variable {sem : AskQ → ω → Ql → Option ((Xn ⊕ Int) × Ql)}
theorem SideOkq.mono (e : Ex G G2) (h : SideOkq P w K mg base j rO k G f sem) : SideOkq P w K mg base j rO k G2 f sem :=
  ⟨cbk_mono e h.cb, h.ok.imp fun vs H Q E ⟨la, ask, G, fk, o, s, r, s', a1, a2, a3⟩ => ⟨la, ask, G, fk, o, s, r, s', a1, e.trans a2, a3⟩⟩
end
end Sim

/-! a comprehension that asks; the truth of a list -/
namespace Sim
open PySem PySem.Spec PyProof.Rows L2 Evl LamX LamF NdefX
section
variable {α γ κ : Type} {R : Rep α} {T : Rep γ} {K : PySem.W.Frag} {σ : L2.St} {G0 H0 G H W : Hp} {ls : List Addr} {cs : Cs} {tl te : TE} {j : Nat} {Q : VK}
end
end Sim

/-! a thing asked within a comprehension; slotted objects below laid cells -/
namespace LamF
open PySem PySem.Spec PyProof.Rows L2
end LamF
namespace Sim
open PySem PySem.Spec PyProof.Rows L2 Evl LamX LamF NdefX
section
variable {P : Program} {w : World} {K : PySem.W.Frag} {mg : Str → Option Value} {base : Heap} {σ : L2.St} {k : Nat} {G0 H0 G H G2 H2 : Hp} {ls : List Addr} {cs : Cs} {f : Addr}
end
end Sim

set_option maxHeartbeats 4000000
/-! super().m(..) at any place of an own class's def -/
namespace Sim
open PySem PySem.Spec PyProof.Rows L2 PySem.W PySem.Calls NdefX
section
variable {X : Cx} {c : Code} {st : Stmt} {rest : List Stmt} {t u : TS} {te : TE} {e : Expr}
end
section
variable {CX CX1 : CXT} {P : Program} {w : World} {K : Frag} {mg : Str → Option Value} {base : Heap} {N ps psg : List Str} {F : NF} {C D f g : Addr} {fd fdg : FuncData} {k : Nat} {sp spg : Sp} {e : Expr} {es : List Expr} {nm : Str} {p0 p1 p2 p3 : Pos} {pl : Sem Bool} {A : Around} {outer : List Env} {s0 : Shared} {H0 : Hp} {E : XK} {c : Code} {ta : TA}
end
end Sim

/-! list.extend by a list of data -/
namespace Sim
open PySem PySem.Spec PyProof.Rows L2 Evl
section
variable {σ : L2.St} {G0 H0 G H : Hp} {ls : List Addr} {cs : Cs} {l : Addr} {te : TE} {tz : TS} {D : Ends} {α : Type} {R : Rep α} {K : PySem.W.Frag}
end
end Sim

/-! an object made with a lent list and with effects in its arguments -/
namespace Sim
open PySem L2 Evl
section
variable {K : PySem.W.Frag} {C : Addr} {σ : L2.St} {G0 H0 G H : Hp} {ls : List Addr} {cs : Cs} {l : Addr} {X : XK} {Q : VK} {α ι κ : Type} {A : AR ι}
end
end Sim

/-! a tuple whose object is told (no dict of its own): tuple(list) makes one, dict(tuple) reads it -/
namespace L2
open PySem PySem.Spec PyProof.Rows
section
variable {X : Cx} {pins : List (Addr × Obj)} {σ : St} {H : Hp} {s : Shared}
end
end L2
namespace Sim
open PySem PySem.Spec PyProof.Rows L2 Evl
section
variable {σ : L2.St} {G0 H0 G H W : Hp} {ls : List Addr} {cs : Cs} {l : Addr} {te : TE} {κ α : Type} [DecidableEq κ] {kf : κ → Key} {Sk : Rep κ} {R : Rep α} {K : PySem.W.Frag}
end
end Sim

/-! a generator def called with keywords -/
namespace L2
open PySem PySem.Spec PyProof.Rows
section
variable {X : Cx} {k n : Nat} {f : Addr} {fd : FuncData} {ps ks : List Str} {sp : SpG} {E : XK} {x : Str} {p pos : Pos} {e : Expr} {es : List Expr} {kws : List Keyword} {t tk : TA} {g : List Value → List Value → List Value} {gV : List V → List V → List V}
end
end L2

/-! generators: if; the walk's lemmas; their promise -/
namespace L2
open PySem PySem.Spec PyProof.Rows GenW
end L2
namespace Sim
open PySem PySem.Spec PyProof.Rows L2 Evl
section
variable {K : PySem.W.Frag} {σ : L2.St} {G0 H0 G H G2 H2 W : Hp} {ls : List Addr} {cs : Cs} {l : Addr} {ta tb te tc : TE} {t : TT} {α β γ ι κ : Type} {R : Rep α} {S : Rep β} {A : AR ι} {D : GEnds} {ys : List V} {tu tv u : TGn}
end
section
variable {K : PySem.W.Frag} {C : Addr} {σ : L2.St} {G0 H0 G H G2 H2 : Hp} {ls : List Addr} {cs : Cs} {X : XK} {α κ ι : Type} {A : AR ι} {B : Rep κ} {ns : List Str}
end
end Sim

/-! a != b of an own class that has __eq__ alone -/
namespace L2
open PySem PySem.Spec PyProof.Rows
section
variable {X : Cx} {k : Nat} {f C : Addr} {fd : FuncData} {ps : List Str} {sp : Sp}
end
end L2
namespace Sim
open PySem PySem.Spec PyProof.Rows L2 Evl
end Sim

/-! told tuples: read in one way, and they stay below laid cells -/
namespace Sim
open PySem PySem.Spec PyProof.Rows L2 Evl
end Sim

/-! a, b = x, y; a pair of new dicts that a call gave, cleared later -/
namespace Sim
open PySem PySem.Spec PyProof.Rows L2 Evl
section
variable {K : PySem.W.Frag} {σ : L2.St} {G0 H0 G H G2 H2 W Gw Hw : Hp} {ls : List Addr} {cs cs0 : Cs} {l : Addr} {ta : TA} {α β κ ι : Type} {R : Rep α} {S : Rep β} {A : AR ι} {D : Ends} {tz : TS}
end
end Sim

set_option maxHeartbeats 40000000
set_option synthInstance.maxSize 4000
set_option synthInstance.maxHeartbeats 1000000
namespace My
open PySem PySem.Spec PyProof.Rows L2 Sim
def top (i : Nat) : Stmt := PySem.Challenge.pw_askedpoints_k27_parting_tables.main.body.getD i (.Pass ⟨0, 0, 0, 0⟩)
abbrev s_Record___init__ : Stmt := inClass (top 10) 1
abbrev s_Record_answer : Stmt := inClass (top 10) 3
abbrev s_same_start : Stmt := top 12
abbrev s_shape_clash : Stmt := top 13
abbrev s_falls : Stmt := top 14
abbrev s_clash : Stmt := top 15
abbrev s_parting_tables : Stmt := top 16
abbrev s_closure : Stmt := top 18
abbrev s_turned : Stmt := top 19
abbrev s_least_above : Stmt := top 20
abbrev s_bounds_table : Stmt := top 21
abbrev s_first_ring : Stmt := top 22
abbrev s_first_lack : Stmt := top 23
abbrev s_longest : Stmt := top 24
abbrev s_neighbours : Stmt := top 25
abbrev s_Order___init__ : Stmt := inClass (top 27) 1
abbrev s_Order__require : Stmt := inClass (top 27) 5
abbrev s_Order_below : Stmt := inClass (top 27) 6
abbrev s_Order_least : Stmt := inClass (top 27) 12
abbrev s__law_pot : Stmt := top 29
abbrev s__law_draw : Stmt := top 30
abbrev s__law_int : Stmt := top 31
abbrev s__law_masks : Stmt := top 32
abbrev s__law_under : Stmt := top 33
abbrev s__law_pairs : Stmt := top 34
abbrev s__law_names : Stmt := top 35
abbrev s__law_row : Stmt := top 36
abbrev s__law_second : Stmt := top 37
abbrev s__law_falls : Stmt := top 38
abbrev s__law_shape_clash : Stmt := top 39
abbrev s__law_parting_due : Stmt := top 40
abbrev s__law_shown : Stmt := top 41
abbrev s_law : Stmt := top 42
def d_Record___init__ : He.DefD := ⟨("Record", some "__init__"), "__init__", "Record.__init__", defArgs s_Record___init__, defBody s_Record___init__, defScope s_Record___init__, [], []⟩
def d_Record_answer : He.DefD := ⟨("Record", some "answer"), "answer", "Record.answer", defArgs s_Record_answer, defBody s_Record_answer, defScope s_Record_answer, [], []⟩
def d_same_start : He.DefD := ⟨("same_start", none), "same_start", "same_start", defArgs s_same_start, defBody s_same_start, defScope s_same_start, [], []⟩
def d_shape_clash : He.DefD := ⟨("shape_clash", none), "shape_clash", "shape_clash", defArgs s_shape_clash, defBody s_shape_clash, defScope s_shape_clash, [], []⟩
def d_falls : He.DefD := ⟨("falls", none), "falls", "falls", defArgs s_falls, defBody s_falls, defScope s_falls, [], []⟩
def d_clash : He.DefD := ⟨("clash", none), "clash", "clash", defArgs s_clash, defBody s_clash, defScope s_clash, [], []⟩
def d_parting_tables : He.DefD := ⟨("parting_tables", none), "parting_tables", "parting_tables", defArgs s_parting_tables, defBody s_parting_tables, defScope s_parting_tables, [], []⟩
def d_closure : He.DefD := ⟨("closure", none), "closure", "closure", defArgs s_closure, defBody s_closure, defScope s_closure, [], []⟩
def d_turned : He.DefD := ⟨("turned", none), "turned", "turned", defArgs s_turned, defBody s_turned, defScope s_turned, [], []⟩
def d_least_above : He.DefD := ⟨("least_above", none), "least_above", "least_above", defArgs s_least_above, defBody s_least_above, defScope s_least_above, [], []⟩
def d_bounds_table : He.DefD := ⟨("bounds_table", none), "bounds_table", "bounds_table", defArgs s_bounds_table, defBody s_bounds_table, defScope s_bounds_table, [], []⟩
def d_first_ring : He.DefD := ⟨("first_ring", none), "first_ring", "first_ring", defArgs s_first_ring, defBody s_first_ring, defScope s_first_ring, [], []⟩
def d_first_lack : He.DefD := ⟨("first_lack", none), "first_lack", "first_lack", defArgs s_first_lack, defBody s_first_lack, defScope s_first_lack, [], []⟩
def d_longest : He.DefD := ⟨("longest", none), "longest", "longest", defArgs s_longest, defBody s_longest, defScope s_longest, [], []⟩
def d_neighbours : He.DefD := ⟨("neighbours", none), "neighbours", "neighbours", defArgs s_neighbours, defBody s_neighbours, defScope s_neighbours, [], []⟩
def d_Order___init__ : He.DefD := ⟨("Order", some "__init__"), "__init__", "Order.__init__", defArgs s_Order___init__, defBody s_Order___init__, defScope s_Order___init__, [], []⟩
def d_Order__require : He.DefD := ⟨("Order", some "_require"), "_require", "Order._require", defArgs s_Order__require, defBody s_Order__require, defScope s_Order__require, [], []⟩
def d_Order_below : He.DefD := ⟨("Order", some "below"), "below", "Order.below", defArgs s_Order_below, defBody s_Order_below, defScope s_Order_below, [], []⟩
def d__law_pot : He.DefD := ⟨("_law_pot", none), "_law_pot", "_law_pot", defArgs s__law_pot, defBody s__law_pot, defScope s__law_pot, [], []⟩
def d__law_draw : He.DefD := ⟨("_law_draw", none), "_law_draw", "_law_draw", defArgs s__law_draw, defBody s__law_draw, defScope s__law_draw, [], []⟩
def d__law_int : He.DefD := ⟨("_law_int", none), "_law_int", "_law_int", defArgs s__law_int, defBody s__law_int, defScope s__law_int, [], []⟩
def d__law_masks : He.DefD := ⟨("_law_masks", none), "_law_masks", "_law_masks", defArgs s__law_masks, defBody s__law_masks, defScope s__law_masks, [], []⟩
def d__law_under : He.DefD := ⟨("_law_under", none), "_law_under", "_law_under", defArgs s__law_under, defBody s__law_under, defScope s__law_under, [], []⟩
def d__law_pairs : He.DefD := ⟨("_law_pairs", none), "_law_pairs", "_law_pairs", defArgs s__law_pairs, defBody s__law_pairs, defScope s__law_pairs, [], []⟩
def d__law_names : He.DefD := ⟨("_law_names", none), "_law_names", "_law_names", defArgs s__law_names, defBody s__law_names, defScope s__law_names, [], []⟩
def d__law_row : He.DefD := ⟨("_law_row", none), "_law_row", "_law_row", defArgs s__law_row, defBody s__law_row, defScope s__law_row, [], []⟩
def d__law_second : He.DefD := ⟨("_law_second", none), "_law_second", "_law_second", defArgs s__law_second, defBody s__law_second, defScope s__law_second, [], []⟩
def d__law_falls : He.DefD := ⟨("_law_falls", none), "_law_falls", "_law_falls", defArgs s__law_falls, defBody s__law_falls, defScope s__law_falls, [], []⟩
def d__law_shape_clash : He.DefD := ⟨("_law_shape_clash", none), "_law_shape_clash", "_law_shape_clash", defArgs s__law_shape_clash, defBody s__law_shape_clash, defScope s__law_shape_clash, [], []⟩
def d__law_parting_due : He.DefD := ⟨("_law_parting_due", none), "_law_parting_due", "_law_parting_due", defArgs s__law_parting_due, defBody s__law_parting_due, defScope s__law_parting_due, [], []⟩
def d__law_shown : He.DefD := ⟨("_law_shown", none), "_law_shown", "_law_shown", defArgs s__law_shown, defBody s__law_shown, defScope s__law_shown, [], []⟩
def d_law : He.DefD := ⟨("law", none), "law", "law", defArgs s_law, defBody s_law, defScope s_law, [], []⟩
def fn : List He.DefD := [d_Record___init__, d_Record_answer, d_same_start, d_shape_clash, d_falls, d_clash, d_parting_tables, d_closure, d_turned, d_least_above, d_bounds_table, d_first_ring, d_first_lack, d_longest, d_neighbours, d_Order___init__, d_Order__require, d_Order_below, d__law_pot, d__law_draw, d__law_int, d__law_masks, d__law_under, d__law_pairs, d__law_names, d__law_row, d__law_second, d__law_falls, d__law_shape_clash, d__law_parting_due, d__law_shown, d_law]
def fa : List He.Fa := [.glo "_wall", .glo "AskedError", .glo "BadSize", .glo "NotElement", .glo "Ring", .glo "NoJoin", .glo "NoMeet", .glo "AskedTwice", .glo "Record", .glo "same_start", .glo "shape_clash", .glo "falls", .glo "clash", .glo "parting_tables", .glo "closure", .glo "turned", .glo "least_above", .glo "bounds_table", .glo "first_ring", .glo "first_lack", .glo "longest", .glo "neighbours", .glo "Order", .glo "_law_pot", .glo "_law_draw", .glo "_law_int", .glo "_law_masks", .glo "_law_under", .glo "_law_pairs", .glo "_law_names", .glo "_law_row", .glo "_law_second", .glo "_law_falls", .glo "_law_shape_clash", .glo "_law_parting_due", .glo "_law_shown", .glo "law", .free "super", .free "range", .free "len", .free "max", .free "list", .free "min", .free "abs", .free "int", .free "sorted", .free "tuple", .free "zip", .free "isinstance", .free "bool", .free "dict", .cls "Order", .noat "Order" "_above", .noat "Order" "_joins", .noat "Order" "_meets", .noat "Order" "_members", .noat "Order" "_height", .meth "Order" "_require", .meth "Record" "answer", .meth "Order" "below", .mkr "Order", .mkr "Record"]
def ex : List (PySem.W.Frag → Bool) := [fun K => He.conB K "Order" "MOST" (.int 12), sclB "Record", slotB "Record" "name" 1, slotB "Record" "asks" 0, slotB "Record" "result" 2]
def P : Program := (PySem.Challenge.rw_askedpoints_k27_parting_tables).prog
def xs : List XcD := []
def g_Order_least : GeD := ⟨"property", "Order", "least", "Order.least", defArgs s_Order_least, defBody s_Order_least, defScope s_Order_least⟩
def gs : List GeD := [g_Order_least]
abbrev Tx (K : PySem.W.Frag) (mg : Str → Option Value) : Prop := TxX fa fn ex xs gs P.main.file K mg
section
variable {w : World} {K : PySem.W.Frag} {mg : Str → Option Value} {base : Heap}
end
end My
namespace My
open PySem L2 Sim
section
variable {α β γ σ ρ : Type}
theorem bs {a : α} {f : α → Option β} : Option.bind (some a) f = f a := Eq.trans (Option.bind_some a f) (Eq.refl _)
def tab (n : Nat) (f : Nat → α) : List α := (List.range n).map f
end

/-! pop -/
section
open PyProof.Rows
end
end My

namespace My
open PySem L2 Sim
/-! ### Warshall -/
end My

namespace My
open PySem L2 Sim PyProof.Rows
/-! ### the pot -/
end My

namespace My
end My

namespace My
open PySem L2 Sim PyProof.Rows
/-! ### names -/
theorem lsub {α : Type} [DecidableEq α] : ∀ {l l2 : List α}, l.Nodup → (∀ x ∈ l, x ∈ l2) → l.length ≤ l2.length
  | [], _, _, _ => Nat.zero_le _
  | x :: xs, l2, h, hs => by
    have hx := hs x (List.mem_cons_self ..)
    obtain ⟨h1, h2⟩ := List.nodup_cons.mp h
    have := lsub (l := xs) (l2 := l2.erase x) h2 fun y hy => by
      have hne : y ≠ x := fun e => h1 (e ▸ hy)
      exact (List.mem_erase_of_ne hne).mpr (hs y (List.mem_cons_of_mem _ hy))
    rw [List.length_erase_of_mem hx] at this
    have := List.length_pos_of_mem hx
    simp only [List.length_cons]
    omega
/-! ### tables -/
section
variable {α : Type}
theorem put_new {d : List (Str × α)} {k : Str} {x : α} (h : k ∉ d.map (·.1)) : putM d k x = d ++ [(k, x)] := by
  unfold putM
  rw [if_neg]
  intro h2
  obtain ⟨q, hq, e⟩ := List.any_eq_true.mp h2
  exact h (List.mem_map.mpr ⟨q, hq, of_decide_eq_true e⟩)
theorem put_old {d : List (Str × α)} {k : Str} {x : α} (h : k ∈ d.map (·.1)) : putM d k x = d.map fun q => if q.1 = k then (q.1, x) else q := by
  unfold putM
  rw [if_pos]
  obtain ⟨q, hq, e⟩ := List.mem_map.mp h
  exact List.any_eq_true.mpr ⟨q, hq, decide_eq_true e⟩
theorem put_keys {d : List (Str × α)} {k : Str} {x : α} : (putM d k x).map (·.1) = if k ∈ d.map (·.1) then d.map (·.1) else d.map (·.1) ++ [k] := by
  by_cases h : k ∈ d.map (·.1)
  · rw [put_old h, if_pos h, List.map_map]
    refine List.map_congr_left fun q _ => ?_
    show (if q.1 = k then (q.1, x) else q).1 = q.1
    split <;> rfl
  · rw [put_new h, if_neg h, List.map_append]; rfl
theorem put_mem {d : List (Str × α)} {k : Str} {x : α} {q : Str × α} (h : q ∈ putM d k x) : q ∈ d ∨ q = (k, x) := by
  by_cases hk : k ∈ d.map (·.1)
  · rw [put_old hk] at h
    obtain ⟨r, hr, e⟩ := List.mem_map.mp h
    by_cases e2 : r.1 = k
    · rw [if_pos e2] at e; subst e; right; rw [e2]
    · rw [if_neg e2] at e; subst e; exact .inl hr
  · rw [put_new hk] at h
    rcases List.mem_append.mp h with h | h
    · exact .inl h
    · exact .inr (List.mem_singleton.mp h)
theorem put_len {d : List (Str × α)} {k : Str} {x : α} : (putM d k x).length ≤ d.length + 1 := by
  have := congrArg List.length (put_keys (d := d) (k := k) (x := x))
  rw [List.length_map] at this
  rw [this]
  split <;> simp
theorem look_mem {d : List (Str × α)} {k : Str} {x : α} (h : lookM d k = some x) : (k, x) ∈ d := by
  unfold lookM at h
  cases e : d.find? fun q => decide (q.1 = k) with
  | none => rw [e] at h; cases h
  | some q =>
    rw [e] at h
    have h1 : q.1 = k := of_decide_eq_true (p := q.1 = k) (List.find?_some (p := fun q : Str × α => decide (q.1 = k)) e)
    have h2 := List.mem_of_find?_eq_some e
    have h3 : q.2 = x := Option.some.inj h
    rw [← h1, ← h3]
    exact h2
/-- a table of elements, of at most l entries -/
structure Tb (n l : Nat) (d : List (Str × Int)) : Prop where
  nd : (d.map (·.1)).Nodup
  rg : ∀ q ∈ d, ∃ a : Nat, a < n ∧ q.2 = (a : Int)
  ln : d.length ≤ l
theorem Tb.nil {n l : Nat} : Tb n l [] := ⟨List.nodup_nil, fun q hq => (nomatch hq), Nat.zero_le _⟩
theorem Tb.imp {n l l' : Nat} {d : List (Str × Int)} (t : Tb n l d) (h : l ≤ l') : Tb n l' d := ⟨t.nd, t.rg, Nat.le_trans t.ln h⟩
theorem Tb.put {n l a : Nat} {k : Str} {d : List (Str × Int)} (t : Tb n l d) (ha : a < n) : Tb n (l + 1) (putM d k (a : Int)) where
  nd := by
    rw [put_keys]
    split
    · exact t.nd
    · rename_i h
      rw [List.nodup_append]
      exact ⟨t.nd, by simp, fun x hx y hy => by
        rw [List.mem_singleton] at hy
        subst hy
        exact fun e => h (e ▸ hx)⟩
  rg q hq := by
    rcases put_mem hq with h | rfl
    · exact t.rg q h
    · exact ⟨a, ha, rfl⟩
  ln := Nat.le_trans put_len (Nat.add_le_add_right t.ln 1)
theorem Tb.get {n l a : Nat} {d : List (Str × Int)} (t : Tb n l d) (ha : a < n) (k : Str) : ∃ b : Nat, b < n ∧ (lookM d k).getD (a : Int) = (b : Int) := by
  cases e : lookM d k with
  | none => exact ⟨a, ha, rfl⟩
  | some x =>
    obtain ⟨b, hb, e2⟩ := t.rg _ (look_mem e)
    exact ⟨b, hb, e2⟩
end
end My

namespace My
open PySem L2 Sim PyProof.Rows
/-! ### the pot -/
/-! ### the masks -/
structure Masks (ms : List Nat) : Prop where
  nd : ms.Nodup
  lt : ∀ x ∈ ms, x < 32
  top : 31 ∈ ms
  cl : ∀ x ∈ ms, ∀ y ∈ ms, x &&& y ∈ ms
/-! ### the order of the masks -/
theorem Masks.ne {ms : List Nat} (h : Masks ms) : 1 ≤ ms.length := List.length_pos_of_mem h.top
end My

namespace My
open PySem L2 Sim PyProof.Rows
end My

namespace My
open PySem L2 Sim PyProof.Rows
/-! ### all related pairs -/
end My

namespace My
open PySem L2 Sim PyProof.Rows
end My

namespace My
open PySem L2 Sim PyProof.Rows
/-! ### heights -/
def slt (le : Nat → Nat → Bool) (a b : Nat) : Bool := !(a == b) && le a b
def sup : Nat → (Nat → Nat) → Nat
  | 0, _ => 0
  | n + 1, f => max (sup n f) (f n)
def hg (n : Nat) (le : Nat → Nat → Bool) : Nat → Nat → Nat
  | 0, _ => 0
  | k + 1, b => sup n fun a => if slt le a b = true then hg n le k a + 1 else 0
/-! ### relaxing along steps -/
/-- between: what a state of the steps keeps -/
def Relax (n : Nat) (h : Nat → Nat) (s0 : Nat → Nat) (done : Nat → Nat → Prop) (s : List Int) : Prop :=
  ∃ f : Nat → Nat, s = tab n (fun i => (f i : Int)) ∧ (∀ i, i < n → s0 i ≤ f i ∧ f i ≤ h i) ∧ ∀ a b, b < n → done a b → s0 a + 1 ≤ f b
theorem Relax.imp {n : Nat} {h s0 : Nat → Nat} {d d' : Nat → Nat → Prop} {s : List Int} (r : Relax n h s0 d s) (i : ∀ a b, b < n → d' a b → d a b) : Relax n h s0 d' s := by
  obtain ⟨f, e, h1, h2⟩ := r
  exact ⟨f, e, h1, fun a b hb hd => h2 a b hb (i a b hb hd)⟩
/-- r rounds -/
def Rnd (n : Nat) (h : Nat → Nat) (r : Nat) (s : List Int) : Prop := ∃ f : Nat → Nat, s = tab n (fun i => (f i : Int)) ∧ (∀ i, i < n → f i ≤ h i) ∧ ∀ i, i < n → h i ≤ r → f i = h i
theorem Rnd.next {n : Nat} {h s0 : Nat → Nat} {done : Nat → Nat → Prop} {r : Nat} {s : List Int} (h1 : ∀ i, i < n → s0 i ≤ h i) (h2 : ∀ i, i < n → h i ≤ r → s0 i = h i) (hd : ∀ b, b < n → h b ≠ 0 → ∃ a, a < n ∧ done a b ∧ h b = h a + 1) (R : Relax n h s0 done s) : Rnd n h (r + 1) s := by
  obtain ⟨f, e, k1, k2⟩ := R
  refine ⟨f, e, fun i hi => (k1 i hi).2, fun i hi hr => ?_⟩
  have := k1 i hi
  by_cases z : h i = 0
  · omega
  · obtain ⟨a, ha, hda, hh⟩ := hd i hi z
    have := k2 a i hi hda
    have := h2 a ha (by omega)
    omega
end My

namespace My
open PySem L2 Sim PyProof.Rows
/-! ### the law's own heights -/
end My

namespace My
open PySem L2 Sim PyProof.Rows
/-! ### what an order answers -/
section
variable {n : Nat} {le : Nat → Nat → Bool} {j m : Nat → Nat → Nat} {o : m_Order}
end
end My

namespace My
open PySem L2 Sim PyProof.Rows
/-! ### small laws for what the laws compute themselves -/
/-! ### the law's own join, meet -/
section
variable {ms : List Nat}
end
end My

namespace My
open PySem L2 Sim PyProof.Rows
/-! ### records of rows -/
section
variable {n l : Nat}
/-! ### the common beginning -/
/-! ### falling -/
variable {le : Nat → Nat → Bool} {j m : Nat → Nat → Nat} {o : m_Order}
end
/-! ### rows drawn -/
/-- a row of the names -/
structure Row (n : Nat) (ns : List Str) (d : List (Str × Int)) : Prop where
  t : Tb n ns.length d
  k : ∀ q ∈ d, q.1 ∈ ns
theorem Row.mk' {n : Nat} {ns : List Str} {d : List (Str × Int)} (nd : (d.map (·.1)).Nodup) (rg : ∀ q ∈ d, ∃ a : Nat, a < n ∧ q.2 = (a : Int)) (k : ∀ q ∈ d, q.1 ∈ ns) : Row n ns d :=
  ⟨⟨nd, rg, by
    have := lsub nd (l2 := ns) (fun x hx => by
      obtain ⟨q, hq, rfl⟩ := List.mem_map.mp hx
      exact k q hq)
    rwa [List.length_map] at this⟩, k⟩
theorem Row.sub {n : Nat} {ns : List Str} {d e : List (Str × Int)} (h : Row n ns d) (s : e.Sublist d) : Row n ns e :=
  Row.mk' (h.t.nd.sublist (s.map _)) (fun q hq => h.t.rg q (s.subset hq)) fun q hq => h.k q (s.subset hq)
theorem Row.nil {n : Nat} {ns : List Str} : Row n ns [] := Row.mk' List.nodup_nil (fun q hq => (nomatch hq)) fun q hq => (nomatch hq)
end My

namespace My
open PySem L2 Sim PyProof.Rows
/-! ### the two tables -/
abbrev Dc := List (Str × Int)
def ptS (z : Int) : Dc → Dc × Dc → Dc × Dc
  | [], s => s
  | q :: b, s => ptS z b (putM s.1 q.1 q.2, if q.1 ∈ s.2.map (·.1) then s.2 else s.2 ++ [(q.1, z)])
theorem look_is {d : Dc} {k : Str} : (lookM d k).isSome = decide (k ∈ d.map (·.1)) := by
  cases e : lookM d k with
  | some x => exact (decide_eq_true (List.mem_map.mpr ⟨(k, x), look_mem e, rfl⟩)).symm
  | none =>
    refine (decide_eq_false fun h => ?_).symm
    obtain ⟨q, hq, rfl⟩ := List.mem_map.mp h
    have : (d.find? fun z => decide (z.1 = q.1)) ≠ none := fun z => by
      have := List.find?_eq_none.mp z q hq
      simp at this
    unfold lookM at e
    cases e2 : (d.find? fun z => decide (z.1 = q.1)) with
    | none => exact absurd e2 this
    | some z => rw [e2] at e; cases e
theorem look_no {d : Dc} {k : Str} (h : k ∉ d.map (·.1)) : lookM d k = none := by
  have := look_is (d := d) (k := k)
  rw [decide_eq_false h] at this
  exact Option.not_isSome_iff_eq_none.mp (by rw [this]; decide)
theorem look_consK {α : Type} {q : Str × α} {d : List (Str × α)} {y : Str} : lookM (q :: d) y = if q.1 = y then some q.2 else lookM d y := by
  unfold lookM
  rw [List.find?_cons]
  by_cases h : q.1 = y
  · rw [decide_eq_true h, if_pos h]; rfl
  · rw [decide_eq_false h, if_neg h]
theorem look_putK {α : Type} {k y : Str} {x : α} : ∀ {d : List (Str × α)}, lookM (putM d k x) y = if y = k then some x else lookM d y := by
  have hm : ∀ d : List (Str × α), k ∈ d.map (·.1) → lookM (d.map fun q => if q.1 = k then (q.1, x) else q) y = if y = k then some x else lookM d y := by
    intro d
    induction d with
    | nil => intro h; cases h
    | cons q d ih =>
      intro h
      rw [List.map_cons, look_consK, look_consK]
      by_cases e : q.1 = k
      · rw [if_pos e]
        by_cases z : y = k
        · rw [if_pos (e.trans z.symm), if_pos z]
        · rw [if_neg (fun w => z (w.symm.trans e)), if_neg z, if_neg (fun w => z (w.symm.trans e))]
          by_cases hk : k ∈ d.map (·.1)
          · rw [ih hk, if_neg z]
          · have : d.map (fun q => if q.1 = k then (q.1, x) else q) = d := by
              have e9 : d.map (fun q => if q.1 = k then (q.1, x) else q) = d.map id := List.map_congr_left fun q hq => if_neg fun w => hk (List.mem_map.mpr ⟨q, hq, w⟩)
              rw [e9, List.map_id]
            rw [this]
      · rw [if_neg e]
        have hk : k ∈ d.map (·.1) := by
          rw [List.map_cons] at h
          rcases List.mem_cons.mp h with h | h
          · exact absurd h.symm e
          · exact h
        rw [ih hk]
        by_cases z : y = k
        · rw [if_pos z, if_neg (fun w => e (w.trans z)), if_pos z]
        · rw [if_neg z]
          by_cases w : q.1 = y
          · rw [if_pos w, if_neg z]
          · rw [if_neg w, if_neg z]
  have ha : ∀ d : List (Str × α), k ∉ d.map (·.1) → lookM (d ++ [(k, x)]) y = if y = k then some x else lookM d y := by
    intro d
    induction d with
    | nil =>
      intro _
      rw [List.nil_append, look_consK]
      by_cases z : y = k
      · rw [if_pos z.symm, if_pos z]
      · rw [if_neg (fun w => z w.symm), if_neg z]
    | cons q d ih =>
      intro h
      rw [List.map_cons, List.mem_cons, not_or] at h
      rw [List.cons_append, look_consK, look_consK, ih h.2]
      by_cases z : y = k
      · rw [if_pos z, if_neg (fun w => h.1 (z.symm.trans w.symm)), if_pos z]
      · by_cases w : q.1 = y
        · rw [if_pos w, if_neg z, if_pos w]
        · rw [if_neg w, if_neg z, if_neg z, if_neg w]
  intro d
  by_cases h : k ∈ d.map (·.1)
  · rw [put_old h, hm d h]
  · rw [put_new h, ha d h]
theorem look_app1 : ∀ {d : Dc} {k y : Str} {v : Int}, k ∉ d.map (·.1) → lookM (d ++ [(k, v)]) y = if y = k then some v else lookM d y
  | [], k, y, v, _ => by
    show lookM ((k, v) :: ([] : Dc)) y = _
    rw [look_consK]
    by_cases h : k = y
    · rw [if_pos h, if_pos h.symm]
    · rw [if_neg h, if_neg fun z => h z.symm]
  | q :: d, k, y, v, h => by
    have h1 : k ≠ q.1 := fun e => h (by rw [e]; exact List.mem_cons_self ..)
    have h2 : k ∉ d.map (·.1) := fun e => h (List.mem_cons_of_mem _ e)
    show lookM (q :: (d ++ [(k, v)])) y = _
    rw [look_consK, look_consK, look_app1 h2]
    by_cases e : y = k
    · have e2 : ¬ q.1 = y := fun z => h1 (e.symm.trans z.symm)
      simp only [if_neg e2, if_pos e]
    · simp only [if_neg e]
structure PInv (z : Int) (a done h l : Dc) : Prop where
  ks : h.map (·.1) = l.map (·.1)
  nd : (l.map (·.1)).Nodup
  lw : ∀ x ∈ l.map (·.1), lookM l x = some ((lookM a x).getD z)
  hg : ∀ x, lookM h x = (lookM done x).or (lookM a x)
  sub : ∀ x ∈ a.map (·.1), x ∈ l.map (·.1)
theorem PInv.run {z : Int} {a : Dc} : ∀ (b done h l : Dc), ((done ++ b).map (·.1)).Nodup → PInv z a done h l → PInv z a (done ++ b) (ptS z b (h, l)).1 (ptS z b (h, l)).2
  | [], done, h, l, _, I => by rw [List.append_nil]; exact I
  | q :: b, done, h, l, nd, I => by
    have hq : q.1 ∉ done.map (·.1) := by
      rw [List.map_append, List.nodup_append] at nd
      exact fun hm => nd.2.2 q.1 hm q.1 (List.mem_cons_self ..) rfl
    have e : done ++ q :: b = (done ++ [q]) ++ b := by rw [List.append_assoc]; rfl
    rw [e] at nd ⊢
    refine PInv.run b (done ++ [q]) _ _ nd ?_
    have hg' : ∀ x, lookM (putM h q.1 q.2) x = (lookM (done ++ [q]) x).or (lookM a x) := fun x => by
      rw [look_putK, show done ++ [q] = done ++ [(q.1, q.2)] from rfl, look_app1 hq]
      by_cases ex : x = q.1
      · rw [if_pos ex, if_pos ex]; rfl
      · rw [if_neg ex, if_neg ex, I.hg]
    by_cases hk : q.1 ∈ l.map (·.1)
    · rw [if_pos hk]
      exact ⟨by rw [put_keys, I.ks, if_pos hk], I.nd, I.lw, hg', I.sub⟩
    · rw [if_neg hk]
      refine ⟨by rw [put_keys, I.ks, if_neg hk, List.map_append]; rfl, ?_, fun x hx => ?_, hg', fun x hx => ?_⟩
      · rw [List.map_append]
        exact List.nodup_append.mpr ⟨I.nd, by simp, fun x hx y hy ex => hk (by rw [List.map_cons, List.map_nil, List.mem_singleton] at hy; rw [← hy, ← ex]; exact hx)⟩
      · rw [look_app1 hk]
        by_cases ex : x = q.1
        · rw [if_pos ex, ex, look_no fun hm => hk (I.sub _ hm)]; rfl
        · rw [if_neg ex]
          rw [List.map_append, List.mem_append] at hx
          rcases hx with hx | hx
          · exact I.lw x hx
          · exact absurd (List.mem_singleton.mp hx) ex
      · rw [List.map_append, List.mem_append]
        exact .inl (I.sub x hx)
section
variable {ms : List Nat} {ns : List Str} {z : Nat} {o : m_Order}
end
end My

set_option maxHeartbeats 0
namespace My
open PySem PySem.Spec PyProof.Rows L2 Sim
abbrev Rw1 : PySem.W.OpenRow := PySem.W.OpenLaw.row PySem.Challenge.rw_askedpoints_k27_parting_tables
abbrev hk : PySem.W.Hook := hookX 5 fa fn ex xs gs P.main.file
def ob (s : PySem.W.SharedT) : AlX := obsXG 5 fa fn ex xs gs P.main.file (HandSHeadRun.getT s)
def loose0 : List PySem.Str := ["_wall", "AskedError", "BadSize", "NotElement", "Ring", "NoJoin", "NoMeet", "AskedTwice", "Record", "same_start", "shape_clash", "falls", "clash", "parting_tables", "closure"]
def loose1 : List PySem.Str := ["turned", "least_above", "bounds_table", "first_ring", "first_lack", "longest", "neighbours", "Order", "_law_pot", "_law_draw", "_law_int", "_law_masks", "_law_under", "_law_pairs", "_law_names"]
def loose2 : List PySem.Str := ["_law_row", "_law_second", "_law_falls", "_law_shape_clash", "_law_parting_due", "_law_shown"]
def loose : List PySem.Str := loose0 ++ (loose1 ++ (loose2))
theorem run_join {α β γ δ : Type} {x : Option α} {f : α → β × γ} {g : α → δ} {b : β} {c : γ} {d : δ} (h1 : x.map f = some (b, c)) (h2 : x.map g = some d) : x.map (fun s => ((f s).1, (f s).2, g s)) = some (b, c, d) := by
  cases x with
  | none => cases h1
  | some s =>
    have h1 : f s = (b, c) := Option.some.inj h1
    have h2 : g s = d := Option.some.inj h2
    show some ((f s).1, (f s).2, g s) = _
    rw [h1, h2]
section
open PySem.W PySem.Calls HandSHeadRun
theorem run_mk {r : PySem.W.OpenRow} {q : Program} {H : PySem.W.Hook} {ob : PySem.W.SharedT → H.α} {M : Nat} {loose : List PySem.Str} {w : World}
    (h1 : ∀ os : OsState, (endF (stepQ (denQ tabQ) r.prog w) M r.prog w os).map (fun s => (looksF r.prog (boot_heap w.params) s.abs, seenQ q loose (importedModules r.prog.main.body) (fun s => xlAt q [] s && recOk r.toRowW.records s) s.abs)) = some (true, openGood q loose))
    (h2 : ∀ os : OsState, (endF (stepQ (denQ tabQ) r.prog w) M r.prog w os).map ob = some (H.val w)) : RunEq r q H ob M loose w := fun os => run_join (h1 os) (h2 os)
theorem run1 (w : World) : ∀ os : OsState, (endF (stepQ (denQ tabQ) Rw1.prog w) 12000 Rw1.prog w os).map (fun s => (looksF Rw1.prog (boot_heap w.params) s.abs, seenQ (PySem.W.view Rw1.prog [42]) loose (importedModules Rw1.prog.main.body) (fun s => xlAt (PySem.W.view Rw1.prog [42]) [] s && recOk Rw1.toRowW.records s) s.abs)) = some (true, openGood (PySem.W.view Rw1.prog [42]) loose) := by
  intro os
  kernel_rfl
theorem run2 (w : World) : ∀ os : OsState, (endF (stepQ (denQ tabQ) Rw1.prog w) 12000 Rw1.prog w os).map ob = some (hk.val w) := by
  intro os
  kernel_rfl
theorem run (w : World) : RunEq Rw1 (PySem.W.view Rw1.prog [42]) hk ob 12000 loose w := run_mk (run1 w) (run2 w)
end
end My
open PySem PySem.W PySem.Calls PyProof.Rows
end
/-! Sim: what a reading does, told by plain Lean data (mirrors). -/
namespace Sim
open PySem L2 Evl

/-! ### heaps: the data heap G below the heap H -/
theorem Up.lay {G H : Hp} {p : Addr} {o : HO} (e : Ex G H) (n : H p = none) : Up G H (upd G p o) (upd H p o) := by
  refine ⟨Ex.new (fresh_back e n), fun a u h => ?_, Ex.new n, fun a h1 h2 => ?_⟩
  · by_cases q : a = p
    · subst q; rw [upd_same] at h ⊢; exact h
    · rw [upd_ne q] at h ⊢; exact e a u h
  · by_cases q : a = p
    · subst q; exact absurd n h1
    · rw [upd_ne q]; exact h2

/-! ### data as it stands in a heap -/
def rU : Rep Unit := ⟨fun _ v _ => v = .non, fun _ h => h⟩
theorem scI : rI.Sc := fun h => h
/-- a tuple; its object may be told -/
theorem rd_up {H H' : Hp} {a : Addr} {u : HO} (e : Ex H H') (h : Rd H a u) : Rd H' a u := h.elim (fun h => .inl (e a _ h)) fun ⟨o, h⟩ => .inr ⟨o, e a _ h⟩
def rT {α : Type} (R : Rep α) : Rep (List α) := ⟨fun H v xs => ∃ a vs, v = .ref a ∧ Rd H a (.tup vs) ∧ Paired (R.r H) vs xs,
  fun e ⟨a, vs, h1, h2, h3⟩ => ⟨a, vs, h1, rd_up e h2, Paired.mapP h3 fun _ _ => R.mono e⟩⟩
theorem pr_get {R : V → α → Prop} : ∀ {vs : List V} {xs : List α} {i : Nat} {x : α}, Paired R vs xs → xs[i]? = some x → ∃ v, vs[i]? = some v ∧ R v x
  | _, _, _, _, .nil, e => by simp at e
  | _, _, 0, _, .cons r _, e => by simp at e; subst e; exact ⟨_, rfl, r⟩
  | _, _, i + 1, x, .cons _ t, e => by
    obtain ⟨u, h1, h2⟩ := pr_get (i := i) (x := x) t (by simpa using e)
    exact ⟨u, by simpa using h1, h2⟩
theorem pr_get' {R : V → α → Prop} : ∀ {vs : List V} {xs : List α} {i : Nat} {v : V}, Paired R vs xs → vs[i]? = some v → ∃ x, xs[i]? = some x ∧ R v x
  | _, _, _, _, .nil, e => by simp at e
  | _, _, 0, _, .cons r _, e => by simp at e; subst e; exact ⟨_, rfl, r⟩
  | _, _, i + 1, x, .cons _ t, e => by
    obtain ⟨u, h1, h2⟩ := pr_get' (i := i) (v := x) t (by simpa using e)
    exact ⟨u, by simpa using h1, h2⟩
theorem pr_app {R : V → α → Prop} : ∀ {vs : List V} {xs : List α} {vs' : List V} {xs' : List α}, Paired R vs xs → Paired R vs' xs' → Paired R (vs ++ vs') (xs ++ xs')
  | _, _, _, _, .nil, h => h
  | _, _, _, _, .cons r t, h => .cons r (pr_app t h)

/-! ### mirrors that may lack an answer -/
theorem bindS {α β : Type} {m : Option α} {f : α → Option β} {r : β} (h : (m >>= f) = some r) : ∃ x, m = some x ∧ f x = some r := by
  cases m with
  | none => exact absurd h (by simp)
  | some x => exact ⟨x, rfl, h⟩

/-! ### expressions -/
def aN : AR Unit := ⟨fun _ vs _ => vs = [], fun _ h => h⟩
def aC {α ι : Type} (R : Rep α) (A : AR ι) : AR (α × ι) := ⟨fun H vs p => ∃ v ws, vs = v :: ws ∧ R.r H v p.1 ∧ A.r H ws p.2,
  fun e ⟨v, ws, h1, h2, h3⟩ => ⟨v, ws, h1, R.mono e h2, A.mono e h3⟩⟩
section
variable {K : PySem.W.Frag} {σ : L2.St} {G H G' W W' : Hp} {ta tb te : TE} {t u : TT} {α β γ ι : Type} {R : Rep α} {S : Rep β} {T : Rep γ} {A : AR ι}
theorem e_var {i : Nat} {v : V} {x : α} (hi : σ[i]? = some (some v)) (hv : R.r G v x) : E (tVar i) σ G W R (some x) := fun y hy H e _ Q q => by
  cases hy
  exact ⟨v, hi, q v H G (Up.refl e) hv⟩
theorem e_c {v : V} {x : α} (hv : R.r G v x) : E (tC v) σ G W R (some x) := fun y hy H e _ Q q => by
  cases hy
  exact q v H G (Up.refl e) hv
theorem e_int {i : Int} : E (tC (.int i)) σ G W rI (some i) := e_c rfl
theorem e_bl {i : Bool} : E (tC (.bl i)) σ G W rB (some i) := e_c rfl
theorem e_str {i : Str} : E (tC (.str i)) σ G W rS (some i) := e_c rfl
theorem e_non : E (tC .non) σ G W rU (some ()) := e_c rfl
/-- an operator on values, as a mirror -/
def RR (r : R2) (R : Rep α) (S : Rep β) (T : Rep γ) (f : α → β → Option γ) : Prop :=
  ∀ v w x y z H G, R.r G v x → S.r G w y → f x y = some z → Ex G H → ∀ Q : VK, (∀ u H2 G2, Up G H G2 H2 → T.r G2 u z → Q u H2) → r v w H Q
theorem e_op {r : R2} {f : α → β → Option γ} {ma : Option α} {mb : Option β} (hr : RR r R S T f) (ha : E ta σ G W R ma) (hb : E tb σ G W S mb) :
    E (tOp r ta tb) σ G W T (ma >>= fun x => mb >>= fun y => f x y) := fun z hz H e e' Q q => by
  obtain ⟨x, hx, hz⟩ := bindS hz
  obtain ⟨y, hy, hz⟩ := bindS hz
  refine ha x hx H e e' _ fun v H1 G1 u1 r1 => ?_
  refine (hb.mono u1.gg (e'.trans u1.hh)) y hy H1 u1.gh (Ex.refl _) _ fun w H2 G2 u2 r2 => ?_
  exact hr v w x y z H2 G2 (R.mono u2.gg r1) r2 hz u2.gh Q fun u H3 G3 u3 r3 => q u H3 G3 ((u1.trans u2).trans u3) r3
theorem rr_I0 {g : Int → Int → V} {f : Int → Int → γ} (h : ∀ i j H, T.r H (g i j) (f i j)) : RR (rI0 g) rI rI T (fun i j => some (f i j)) := fun v w x y z H G hv hw hz e Q q => by
  cases hv; cases hw; cases hz
  exact ⟨x, y, rfl, rfl, q _ H G (Up.refl e) (h x y G)⟩
theorem rr_I {C : Int → Int → Prop} {g : Int → Int → V} {f : Int → Int → Option γ} (h : ∀ i j z, f i j = some z → C i j ∧ ∀ H, T.r H (g i j) z) : RR (L2.rI C g) rI rI T f := fun v w x y z H G hv hw hz e Q q => by
  cases hv; cases hw
  obtain ⟨h1, h2⟩ := h x y z hz
  exact ⟨x, y, rfl, rfl, h1, q _ H G (Up.refl e) (h2 G)⟩
end
end Sim

namespace Sim
open PySem L2 Evl

/-! ### cells: objects that change -/
section
variable {G H G2 H2 : Hp} {cs : Cs} {l : Addr} {cp cp' : CP}
theorem Wd.tail (w : Wd G H ((l, cp) :: cs)) : Wd G H cs := ⟨w.ex, fun c h => w.at_ c (List.mem_cons_of_mem _ h), (List.nodup_cons.mp w.nd).2⟩
theorem Wd.swap {l' : Addr} (w : Wd G H ((l, cp) :: (l', cp') :: cs)) : Wd G H ((l', cp') :: (l, cp) :: cs) := ⟨w.ex, fun c h => w.at_ c (by
  rcases List.mem_cons.mp h with h | h
  · subst h; exact List.mem_cons_of_mem _ (List.mem_cons_self ..)
  · rcases List.mem_cons.mp h with h | h
    · subst h; exact List.mem_cons_self ..
    · exact List.mem_cons_of_mem _ (List.mem_cons_of_mem _ h)), by
  have := w.nd
  simp only [List.map_cons, List.nodup_cons, List.mem_cons, not_or] at this ⊢
  exact ⟨⟨fun z => this.1.1 z.symm, this.2.1⟩, this.1.2, this.2.2⟩⟩
end
/-! ### promises -/
/-- what is handed back is data -/
def PF {ι α : Type} (A : AR ι) (R : Rep α) (f : ι → Option α) : Sp := fun vs H Q _ => ∃ G i x, Ex G H ∧ A.r G vs i ∧ f i = some x ∧ ∀ v H2 G2, Up G H G2 H2 → R.r G2 v x → Q v H2
/-- a new list is handed back -/
def PL {ι α : Type} (A : AR ι) (R : Rep α) (f : ι → Option (List α)) : Sp := fun vs H Q _ => ∃ G i x, Ex G H ∧ A.r G vs i ∧ f i = some x ∧
  ∀ p H2 G2, H p = none → Up G H G2 H2 → Wd G2 H2 [(p, cL R x)] → Q (.ref p) H2
def PM {ι κ α : Type} (A : AR ι) (ci : ι → κ → Cs) (R : Rep α) (f : ι → κ → Option (α × κ)) : Sp := fun vs H Q _ => ∃ G i k x k', A.r G vs i ∧ Wd G H (ci i k) ∧ f i k = some (x, k') ∧
  ∀ v H2 G2, Fr G H G2 H2 ((ci i k).map (·.1)) → Wd G2 H2 (ci i k') → R.r G2 v x → Q v H2
def PML {ι κ α : Type} (A : AR ι) (ci : ι → κ → Cs) (R : Rep α) (f : ι → κ → Option (List α × κ)) : Sp := fun vs H Q _ => ∃ G i k x k', A.r G vs i ∧ Wd G H (ci i k) ∧ f i k = some (x, k') ∧
  ∀ p H2 G2, H p = none → Fr G H G2 H2 ((ci i k).map (·.1)) → Wd G2 H2 ((p, cL R x) :: ci i k') → Q (.ref p) H2
theorem Wd.app {G H : Hp} {a b : Cs} (w : Wd G H (a ++ b)) : Wd G H a ∧ Wd G H b := ⟨⟨w.ex, fun c h => w.at_ c (List.mem_append_left _ h), by
  have := w.nd; rw [List.map_append] at this; exact (List.nodup_append.mp this).1⟩, ⟨w.ex, fun c h => w.at_ c (List.mem_append_right _ h), by
  have := w.nd; rw [List.map_append] at this; exact (List.nodup_append.mp this).2.1⟩⟩
theorem Wd.join {G H G2 H2 : Hp} {a a' b : Cs} (w : Wd G H (a ++ b)) (f : Fr G H G2 H2 (a.map (·.1))) (w2 : Wd G2 H2 a') (e : a'.map (·.1) = a.map (·.1)) : Wd G2 H2 (a' ++ b) := by
  have nd : (a.map (·.1) ++ b.map (·.1)).Nodup := by have := w.nd; rw [List.map_append] at this; exact this
  refine ⟨w2.ex, fun c h => ?_, by rw [List.map_append, e]; exact nd⟩
  rcases List.mem_append.mp h with h | h
  · exact w2.at_ c h
  · obtain ⟨h1, o, h2, h3⟩ := w.app.2.at_ c h
    have hn : c.1 ∉ a.map (·.1) := fun z => (List.nodup_append.mp nd).2.2 _ z _ (List.mem_map_of_mem h) rfl
    exact ⟨f.nw _ (by rw [h2]; simp) h1, o, f.fr _ _ h2 hn, c.2.mono f.gg h3⟩
end Sim

namespace Sim
open PySem L2 Evl
section
variable {K : PySem.W.Frag} {σ : L2.St} {G H G' W W' : Hp} {ta tb te tc : TE} {t u : TT} {α β γ ι κ : Type} {R : Rep α} {S : Rep β} {T : Rep γ} {A : AR ι}

/-! ### mirrors of operations that may lack an answer -/
def mulM (a b : Int) : Option Int := if (-(2 ^ 64) < a ∧ a < 2 ^ 64) ∨ (-(2 ^ 64) < b ∧ b < 2 ^ 64) then some (a * b) else none
def modM (a b : Int) : Option Int := if 0 < b then some (a % b) else none
def fdivM (a b : Int) : Option Int := if 0 < b ∧ b < 1073741824 then some (a / b) else none
def andO (a : Option Bool) (b : Option Bool) : Option Bool := a >>= fun x => bif x then b else some false
def orO (a : Option Bool) (b : Option Bool) : Option Bool := a >>= fun x => bif x then some true else b
theorem rr_add : RR (rI0 fun i j => .int (i + j)) rI rI rI (fun i j => some (i + j)) := rr_I0 fun _ _ _ => rfl
theorem rr_mul : RR (L2.rI CMul fun i j => .int (i * j)) rI rI rI mulM := rr_I fun i j z h => by
  unfold mulM at h
  split at h
  · rename_i hc; cases h; exact ⟨hc, fun _ => rfl⟩
  · cases h
theorem rr_mod : RR (L2.rI (fun _ j => 0 < j) fun i j => .int (i % j)) rI rI rI modM := rr_I fun i j z h => by
  unfold modM at h
  split at h
  · rename_i hc; cases h; exact ⟨hc, fun _ => rfl⟩
  · cases h
theorem rr_fdiv : RR (L2.rI CDiv fun i j => .int (i / j)) rI rI rI fdivM := rr_I fun i j z h => by
  unfold fdivM at h
  split at h
  · rename_i hc; cases h; exact ⟨hc, fun _ => rfl⟩
  · cases h
theorem rr_and : RR (rI0 fun i j => .int (Builtin.bitAnd i j)) rI rI rI (fun i j => some (Builtin.bitAnd i j)) := rr_I0 fun _ _ _ => rfl
theorem rr_lt : RR (rI0 fun i j => .bl (decide (i < j))) rI rI rB (fun i j => some (decide (i < j))) := rr_I0 fun _ _ _ => rfl
theorem rr_le : RR (rI0 fun i j => .bl (decide (i ≤ j))) rI rI rB (fun i j => some (decide (i ≤ j))) := rr_I0 fun _ _ _ => rfl
theorem rr_gt : RR (rI0 fun i j => .bl (decide (j < i))) rI rI rB (fun i j => some (decide (j < i))) := rr_I0 fun _ _ _ => rfl
theorem rr_ge : RR (rI0 fun i j => .bl (decide (j ≤ i))) rI rI rB (fun i j => some (decide (j ≤ i))) := rr_I0 fun _ _ _ => rfl
theorem rr_eqI : RR rEq rI rI rB (fun i j => some (i == j)) := fun v w x y z H G hv hw hz e Q q => by
  cases hv; cases hw; cases hz
  exact ⟨rfl, q _ H G (Up.refl e) (congrArg V.bl dec_int)⟩
theorem rr_neI : RR rNe rI rI rB (fun i j => some (!(i == j))) := fun v w x y z H G hv hw hz e Q q => by
  cases hv; cases hw; cases hz
  exact ⟨rfl, q _ H G (Up.refl e) (congrArg (fun b => V.bl (!b)) dec_int)⟩
theorem rr_neB : RR rNe rB rB rB (fun i j => some (!(i == j))) := fun v w x y z H G hv hw hz e Q q => by
  cases hv; cases hw; cases hz
  exact ⟨rfl, q _ H G (Up.refl e) (congrArg (fun b => V.bl (!b)) dec_bl)⟩
theorem rr_eqS : RR rEq rS rS rB (fun i j => some (decide (i = j))) := fun v w x y z H G hv hw hz e Q q => by
  cases hv; cases hw; cases hz
  refine ⟨rfl, q _ H G (Up.refl e) (congrArg V.bl ?_)⟩
  by_cases h : x = y
  · subst h; simp
  · have : ¬ V.str x = V.str y := fun z => h (V.str.inj z)
    simp [h, this]
theorem rr_neS : RR rNe rS rS rB (fun i j => some (!decide (i = j))) := fun v w x y z H G hv hw hz e Q q => by
  cases hv; cases hw; cases hz
  refine ⟨rfl, q _ H G (Up.refl e) (congrArg (fun b => V.bl (!b)) ?_)⟩
  by_cases h : x = y
  · subst h; simp
  · have : ¬ V.str x = V.str y := fun z => h (V.str.inj z)
    simp [h, this]
theorem rr_ixL : RR (rIxL K) (rL R) rI R (fun xs i => atI xs i) := fun v w xs i z H G hv hw hz e Q q => by
  obtain ⟨a, vs, rfl, h2, h3⟩ := hv
  cases hw
  have hz' : (ixN xs.length i).bind (fun j => xs[j]?) = some z := hz
  cases hj : ixN xs.length i with
  | none => rw [hj] at hz'; cases hz'
  | some j =>
    rw [hj] at hz'
    obtain ⟨y, h4, h5⟩ := pr_get h3 (show xs[j]? = some z from hz')
    refine ⟨a, vs, i, y, rfl, rfl, Or.inl (Or.inl (e a _ h2)), ?_, q y H G (Up.refl e) h5⟩
    show (ixN vs.length i).bind (fun j => vs[j]?) = some y
    rw [h3.length, hj]; exact h4
theorem rr_ixT : RR (rIxT K) (rT R) rI R (fun xs i => atI xs i) := fun v w xs i z H G hv hw hz e Q q => by
  obtain ⟨a, vs, rfl, h2, h3⟩ := hv
  cases hw
  have hz' : (ixN xs.length i).bind (fun j => xs[j]?) = some z := hz
  cases hj : ixN xs.length i with
  | none => rw [hj] at hz'; cases hz'
  | some j =>
    rw [hj] at hz'
    obtain ⟨y, h4, h5⟩ := pr_get h3 (show xs[j]? = some z from hz')
    refine ⟨a, vs, i, y, rfl, rfl, Or.inl (rd_up e h2), ?_, q y H G (Up.refl e) h5⟩
    show (ixN vs.length i).bind (fun j => vs[j]?) = some y
    rw [h3.length, hj]; exact h4
/-- p[0], p[1] of a pair -/
theorem e_fst {m : Option (α × β)} (h : E ta σ G W (rP R S) m) : E (tOp (rIxT K) ta (tC (.int 0))) σ G W R (m >>= fun p => some p.1) := fun z hz H e e' Q q => by
  obtain ⟨x, hx, hz⟩ := bindS hz
  cases hz
  refine h x hx H e e' _ fun v H1 G1 u1 r1 => ?_
  obtain ⟨a, y, w, rfl, h2, h3, h4⟩ := r1
  exact ⟨a, [y, w], 0, y, rfl, rfl, Or.inl (Or.inl (u1.gh a _ h2)), rfl, q y H1 G1 u1 h3⟩
theorem e_snd {m : Option (α × β)} (h : E ta σ G W (rP R S) m) : E (tOp (rIxT K) ta (tC (.int 1))) σ G W S (m >>= fun p => some p.2) := fun z hz H e e' Q q => by
  obtain ⟨x, hx, hz⟩ := bindS hz
  cases hz
  refine h x hx H e e' _ fun v H1 G1 u1 r1 => ?_
  obtain ⟨a, y, w, rfl, h2, h3, h4⟩ := r1
  exact ⟨a, [y, w], 1, w, rfl, rfl, Or.inl (Or.inl (u1.gh a _ h2)), rfl, q w H1 G1 u1 h4⟩
/-- never None -/
def Rep.NN (R : Rep α) : Prop := ∀ {H : Hp} {v : V} {x : α}, R.r H v x → v ≠ .non
theorem nnI : rI.NN := fun h => by rw [show _ = V.int _ from h]; simp
theorem nnP : (rP R S).NN := fun ⟨a, _, _, h, _⟩ => by rw [h]; simp
theorem rr_isN (nn : R.NN) : RR (fun x y H Q => y = .non ∧ Q (.bl (decide (x = .non))) H) (rO R) rU rB (fun o _ => some o.isNone) := fun v w o y z H G hv hw hz e Q q => by
  cases hz
  refine ⟨hw, q _ H G (Up.refl e) ?_⟩
  cases o with
  | none => have : v = .non := hv; subst this; rfl
  | some x => exact congrArg V.bl (decide_eq_false (nn hv))
theorem rr_notN (nn : R.NN) : RR (fun x y H Q => y = .non ∧ Q (.bl (!decide (x = .non))) H) (rO R) rU rB (fun o _ => some o.isSome) := fun v w o y z H G hv hw hz e Q q => by
  cases hz
  refine ⟨hw, q _ H G (Up.refl e) ?_⟩
  cases o with
  | none => have : v = .non := hv; subst this; rfl
  | some x => exact congrArg (fun b => V.bl (!b)) (decide_eq_false (nn hv))
/-- flat values: in -/
structure FlR (R : Rep α) (eq : α → α → Bool) : Prop where
  fl : ∀ {H : Hp} {v : V} {x : α}, R.r H v x → flatV v = true
  eq : ∀ {H H' : Hp} {v w : V} {x y : α}, R.r H v x → R.r H' w y → eqV v w = eq x y
theorem flI : FlR rI (fun a b => a == b) := ⟨fun h => by rw [show _ = V.int _ from h]; rfl, fun h h' => by rw [show _ = V.int _ from h, show _ = V.int _ from h']; rfl⟩
theorem flS : FlR rS (fun a b => a == b) := ⟨fun h => by rw [show _ = V.str _ from h]; rfl, fun h h' => by rw [show _ = V.str _ from h, show _ = V.str _ from h']; rfl⟩
theorem pr_inV {eq : α → α → Bool} (f : FlR R eq) {H H' : Hp} {v : V} {x : α} (hv : R.r H' v x) : ∀ {vs : List V} {xs : List α}, Paired (R.r H) vs xs → inV v vs = xs.any (fun y => eq y x) ∧ vs.all flatV = true
  | _, _, .nil => ⟨rfl, rfl⟩
  | _, _, .cons r t => by
    obtain ⟨h1, h2⟩ := pr_inV f hv t
    refine ⟨?_, ?_⟩
    · show (eqV _ v || _) = (eq _ x || _)
      rw [f.eq r hv]; exact congrArg _ h1
    · show (flatV _ && _) = true
      rw [f.fl r]; exact h2
theorem rr_inL {eq : α → α → Bool} (f : FlR R eq) : RR (rIn K false) R (rL R) rB (fun x xs => some (xs.any fun y => eq y x)) := fun v w x xs z H G hv hw hz e Q q => by
  cases hz
  obtain ⟨a, vs, rfl, h2, h3⟩ := hw
  obtain ⟨h4, h5⟩ := pr_inV f hv h3
  refine ⟨a, vs, rfl, Or.inl (Or.inl (Or.inl (e a _ h2))), f.fl hv, h5, q _ H G (Up.refl e) (congrArg V.bl ?_)⟩
  exact h4
theorem rr_ninL {eq : α → α → Bool} (f : FlR R eq) : RR (rIn K true) R (rL R) rB (fun x xs => some (!xs.any fun y => eq y x)) := fun v w x xs z H G hv hw hz e Q q => by
  cases hz
  obtain ⟨a, vs, rfl, h2, h3⟩ := hw
  obtain ⟨h4, h5⟩ := pr_inV f hv h3
  refine ⟨a, vs, rfl, Or.inl (Or.inl (Or.inl (e a _ h2))), f.fl hv, h5, q _ H G (Up.refl e) (congrArg V.bl ?_)⟩
  exact congrArg (fun b => !b) h4

/-! ### and, or, not, if -/
theorem e_andV {a b : Option Bool} (h1 : E ta σ G W rB a) (h2 : E tb σ G W rB b) : E (tAndV ta tb) σ G W rB (andO a b) := fun z hz H e e' Q q => by
  obtain ⟨x, hx, hz⟩ := bindS hz
  refine h1 x hx H e e' _ fun v H1 G1 u1 r1 => ⟨x, r1, ?_⟩
  cases x with
  | true => exact (h2.mono u1.gg (e'.trans u1.hh)) z hz H1 u1.gh (Ex.refl _) Q fun v H2 G2 u2 r2 => q v H2 G2 (u1.trans u2) r2
  | false => cases hz; exact q _ H1 G1 u1 rfl
theorem e_orV {a b : Option Bool} (h1 : E ta σ G W rB a) (h2 : E tb σ G W rB b) : E (tOrV ta tb) σ G W rB (orO a b) := fun z hz H e e' Q q => by
  obtain ⟨x, hx, hz⟩ := bindS hz
  refine h1 x hx H e e' _ fun v H1 G1 u1 r1 => ⟨x, r1, ?_⟩
  cases x with
  | false => exact (h2.mono u1.gg (e'.trans u1.hh)) z hz H1 u1.gh (Ex.refl _) Q fun v H2 G2 u2 r2 => q v H2 G2 (u1.trans u2) r2
  | true => cases hz; exact q _ H1 G1 u1 rfl
theorem e_notV {a : Option Bool} (h1 : E ta σ G W rB a) : E (tNotV ta) σ G W rB (a >>= fun x => some (!x)) := fun z hz H e e' Q q => by
  obtain ⟨x, hx, hz⟩ := bindS hz
  cases hz
  exact h1 x hx H e e' _ fun v H1 G1 u1 r1 => ⟨x, r1, q _ H1 G1 u1 rfl⟩
theorem et_T {m : Option Bool} (h : E te σ W W rB m) : ET (tTest te) σ W m := fun b hb H e Q q => h b hb H e e _ fun v H2 G2 u r => ⟨b, r, q H2 u.hh⟩
theorem et_B {m : Option Bool} (h : E te σ W W rB m) : ET (tB te) σ W m := fun b hb H e Q q => h b hb H e e _ fun v H2 G2 u r => ⟨b, r, q H2 u.hh⟩
theorem et_and {a b : Option Bool} (h1 : ET t σ G a) (h2 : ET u σ G b) : ET (tAnd t u) σ G (andO a b) := fun z hz H e Q q => by
  obtain ⟨x, hx, hz⟩ := bindS hz
  refine h1 x hx H e _ fun H1 e1 => ?_
  cases x with
  | true => exact h2 z hz H1 (e.trans e1) Q fun H2 e2 => q H2 (e1.trans e2)
  | false => cases hz; exact q H1 e1
theorem et_or {a b : Option Bool} (h1 : ET t σ G a) (h2 : ET u σ G b) : ET (tOr t u) σ G (orO a b) := fun z hz H e Q q => by
  obtain ⟨x, hx, hz⟩ := bindS hz
  refine h1 x hx H e _ fun H1 e1 => ?_
  cases x with
  | false => exact h2 z hz H1 (e.trans e1) Q fun H2 e2 => q H2 (e1.trans e2)
  | true => cases hz; exact q H1 e1
theorem et_not {a : Option Bool} (h1 : ET t σ G a) : ET (tNot t) σ G (a >>= fun x => some (!x)) := fun z hz H e Q q => by
  obtain ⟨x, hx, hz⟩ := bindS hz
  cases hz
  exact h1 x hx H e _ fun H1 e1 => q H1 e1

/-! ### arguments, calls -/
theorem ea_nil : EA tNil σ G W aN (some ()) := fun x hx H e e' Q q => q [] H G (Up.refl e) rfl
theorem ea_cons {tr : TA} {ma : Option α} {mr : Option ι} (h : E ta σ G W R ma) (hr : EA tr σ G W A mr) : EA (tCons ta tr) σ G W (aC R A) (ma >>= fun x => mr >>= fun y => some (x, y)) := fun z hz H e e' Q q => by
  obtain ⟨x, hx, hz⟩ := bindS hz
  obtain ⟨y, hy, hz⟩ := bindS hz
  cases hz
  refine h x hx H e e' _ fun v H1 G1 u1 r1 => ?_
  refine (hr.mono u1.gg (e'.trans u1.hh)) y hy H1 u1.gh (Ex.refl _) _ fun w H2 G2 u2 r2 => ?_
  exact q (v :: w) H2 G2 (u1.trans u2) ⟨v, w, rfl, R.mono u2.gg r1, r2⟩
def RC (r : List V → Hp → VK → Prop) (A : AR ι) (T : Rep γ) (f : ι → Option γ) : Prop :=
  ∀ vs i z H G, A.r G vs i → f i = some z → Ex G H → ∀ Q : VK, (∀ u H2 G2, Up G H G2 H2 → T.r G2 u z → Q u H2) → r vs H Q
def RCL (r : List V → Hp → VK → Prop) (A : AR ι) (T : Rep γ) (f : ι → Option (List γ)) : Prop :=
  ∀ vs i z H G, A.r G vs i → f i = some z → Ex G H → ∀ Q : VK, (∀ p H2 G2, H p = none → Up G H G2 H2 → Wd G2 H2 [(p, cL T z)] → Q (.ref p) H2) → r vs H Q
theorem e_cb {r : List V → Hp → VK → Prop} {f : ι → Option γ} {ta : TA} {m : Option ι} (hr : RC r A T f) (ha : EA ta σ G W A m) : E (tCB r ta) σ G W T (m >>= f) := fun z hz H e e' Q q => by
  obtain ⟨i, hi, hz⟩ := bindS hz
  refine ha i hi H e e' _ fun vs H1 G1 u1 r1 => ?_
  exact hr vs i z H1 G1 r1 hz u1.gh Q fun u H2 G2 u2 r2 => q u H2 G2 (u1.trans u2) r2
theorem el_cb {r : List V → Hp → VK → Prop} {f : ι → Option (List γ)} {ta : TA} {m : Option ι} (hr : RCL r A T f) (ha : EA ta σ G W A m) : EL (tCB r ta) σ G W T (m >>= f) := fun z hz H e e' Q q => by
  obtain ⟨i, hi, hz⟩ := bindS hz
  refine ha i hi H e e' _ fun vs H1 G1 u1 r1 => ?_
  exact hr vs i z H1 G1 r1 hz u1.gh Q fun p H2 G2 hp u2 w => q p H2 G2 (fresh_back u1.hh hp) (u1.trans u2) w
theorem e_call {f : ι → Option γ} {ta : TA} {m : Option ι} {X : XK} (ha : EA ta σ G W A m) : E (tCall (PF A T f) [] X ta) σ G W T (m >>= f) := fun z hz H e e' Q q => by
  obtain ⟨i, hi, hz⟩ := bindS hz
  refine ha i hi H e e' _ fun vs H1 G1 u1 r1 => ?_
  rw [List.append_nil]
  exact ⟨G1, i, z, u1.gh, r1, hz, fun v H2 G2 u2 r2 => q v H2 G2 (u1.trans u2) r2⟩
theorem el_call {f : ι → Option (List γ)} {ta : TA} {m : Option ι} {X : XK} (ha : EA ta σ G W A m) : EL (tCall (PL A T f) [] X ta) σ G W T (m >>= f) := fun z hz H e e' Q q => by
  obtain ⟨i, hi, hz⟩ := bindS hz
  refine ha i hi H e e' _ fun vs H1 G1 u1 r1 => ?_
  rw [List.append_nil]
  exact ⟨G1, i, z, u1.gh, r1, hz, fun p H2 G2 hp u2 w => q p H2 G2 (fresh_back u1.hh hp) (u1.trans u2) w⟩

/-! ### built-ins -/
def sz (n : Nat) : Bool := decide (n < 100000)
theorem sz_l {n : Nat} (h : sz n = true) : n < sizeLine := sz_lt (of_decide_eq_true h)
abbrev rLn (K : PySem.W.Frag) : List V → Hp → VK → Prop := fun xs H Q => ∃ p ys, xs = [.ref p] ∧ (SqL K H p ys ∨ SqT K H p ys) ∧ Q (.int ys.length) H
theorem rc_lenL : RC (rLn K) (aC (rL R) aN) rI (fun i => some (i.1.length : Int)) := fun vs i z H G hv hz e Q q => by
  cases hz
  obtain ⟨v, ws, rfl, ⟨a, us, rfl, h2, h3⟩, rfl⟩ := hv
  refine ⟨a, us, rfl, Or.inl (Or.inl (Or.inl (e a _ h2))), q _ H G (Up.refl e) ?_⟩
  show V.int _ = V.int _
  rw [h3.length]
theorem rc_lenT : RC (rLn K) (aC (rT R) aN) rI (fun i => some (i.1.length : Int)) := fun vs i z H G hv hz e Q q => by
  cases hz
  obtain ⟨v, ws, rfl, ⟨a, us, rfl, h2, h3⟩, rfl⟩ := hv
  refine ⟨a, us, rfl, Or.inr (Or.inl (rd_up e h2)), q _ H G (Up.refl e) ?_⟩
  show V.int _ = V.int _
  rw [h3.length]
abbrev rLs (K : PySem.W.Frag) : List V → Hp → VK → Prop := fun xs H Q => ∃ p ys, xs = [.ref p] ∧ (SqL K H p ys ∨ SqT K H p ys) ∧ ∀ l, H l = none → Q (.ref l) (upd H l (.lst ys))
theorem wd_new {vs : List V} {xs : List α} {p : Addr} (e : Ex G H) (n : H p = none) (h : Paired (R.r G) vs xs) : Wd G (upd H p (.lst vs)) [(p, cL R xs)] := (Wd.nil e).new n ⟨vs, rfl, h⟩
theorem up_new {p : Addr} {o : HO} (e : Ex G H) (n : H p = none) : Up G H G (upd H p o) := Up.same e (Ex.new n)
theorem rc_listL : RCL (rLs K) (aC (rL R) aN) R (fun i => some i.1) := fun vs i z H G hv hz e Q q => by
  cases hz
  obtain ⟨v, ws, rfl, ⟨a, us, rfl, h2, h3⟩, rfl⟩ := hv
  exact ⟨a, us, rfl, Or.inl (Or.inl (Or.inl (e a _ h2))), fun l hl => q l _ G hl (up_new e hl) (wd_new e hl h3)⟩
abbrev rAbs : List V → Hp → VK → Prop := fun xs H Q => ∃ i, xs = [.int i] ∧ Q (.int (if i < 0 then -i else i)) H
theorem rc_abs : RC rAbs (aC rI aN) rI (fun i => some (if i.1 < 0 then -i.1 else i.1)) := fun vs i z H G hv hz e Q q => by
  cases hz
  obtain ⟨v, ws, rfl, rfl, rfl⟩ := hv
  exact ⟨_, rfl, q _ H G (Up.refl e) rfl⟩
abbrev rMx : List V → Hp → VK → Prop := fun xs H Q => ∃ i j, xs = [.int i, .int j] ∧ Q (.int (if j > i then j else i)) H
abbrev rMn : List V → Hp → VK → Prop := fun xs H Q => ∃ i j, xs = [.int i, .int j] ∧ Q (.int (if j < i then j else i)) H
theorem rc_max2 : RC rMx (aC rI (aC rI aN)) rI (fun i => some (if i.2.1 > i.1 then i.2.1 else i.1)) := fun vs i z H G hv hz e Q q => by
  cases hz
  obtain ⟨v, ws, rfl, rfl, v2, ws2, rfl, rfl, rfl⟩ := hv
  exact ⟨_, _, rfl, q _ H G (Up.refl e) rfl⟩
theorem rc_min2 : RC rMn (aC rI (aC rI aN)) rI (fun i => some (if i.2.1 < i.1 then i.2.1 else i.1)) := fun vs i z H G hv hz e Q q => by
  cases hz
  obtain ⟨v, ws, rfl, rfl, v2, ws2, rfl, rfl, rfl⟩ := hv
  exact ⟨_, _, rfl, q _ H G (Up.refl e) rfl⟩
abbrev rInt : List V → Hp → VK → Prop := fun xs H Q => (∃ i, xs = [.int i] ∧ Q (.int i) H) ∨ ∃ k, xs = [.bl k] ∧ Q (.int (if k then 1 else 0)) H
theorem rc_intI : RC rInt (aC rI aN) rI (fun i => some i.1) := fun vs i z H G hv hz e Q q => by
  cases hz
  obtain ⟨v, ws, rfl, rfl, rfl⟩ := hv
  exact Or.inl ⟨_, rfl, q _ H G (Up.refl e) rfl⟩
theorem rc_intB : RC rInt (aC rB aN) rI (fun i => some (if i.1 then 1 else 0)) := fun vs i z H G hv hz e Q q => by
  cases hz
  obtain ⟨v, ws, rfl, rfl, rfl⟩ := hv
  exact Or.inr ⟨_, rfl, q _ H G (Up.refl e) rfl⟩
theorem pr_ints {H : Hp} : ∀ {vs : List V} {xs : List Int}, Paired (rI.r H) vs xs → vs = xs.map V.int
  | _, _, .nil => rfl
  | _, _, .cons r t => by rw [show _ = V.int _ from r, pr_ints t]; rfl
theorem ints_pr {H : Hp} : ∀ (xs : List Int), Paired (rI.r H) (xs.map V.int) xs
  | [] => .nil
  | x :: xs => .cons rfl (ints_pr xs)
/-- the sorted list, the least, the greatest: plain mirrors -/
def insI (x : Int) : List Int → List Int
  | [] => [x]
  | y :: ys => if x ≤ y then x :: y :: ys else y :: insI x ys
def srtI : List Int → List Int
  | [] => []
  | x :: xs => insI x (srtI xs)
theorem insI_perm (x : Int) : ∀ ys, (insI x ys).Perm (x :: ys)
  | [] => .refl _
  | y :: ys => by
    unfold insI
    split
    · exact .refl _
    · exact (List.Perm.cons y (insI_perm x ys)).trans (.swap x y ys)
theorem srtI_perm : ∀ xs, (srtI xs).Perm xs
  | [] => .refl _
  | x :: xs => (insI_perm x _).trans (.cons x (srtI_perm xs))
theorem insI_sorted (x : Int) : ∀ {ys : List Int}, ys.Pairwise (· ≤ ·) → (insI x ys).Pairwise (· ≤ ·)
  | [], _ => by simp [insI]
  | y :: ys, h => by
    unfold insI
    split
    · rename_i hxy
      refine List.pairwise_cons.mpr ⟨fun z hz => ?_, h⟩
      rcases List.mem_cons.mp hz with hz | hz
      · subst hz; exact hxy
      · exact Int.le_trans hxy ((List.pairwise_cons.mp h).1 z hz)
    · rename_i hxy
      refine List.pairwise_cons.mpr ⟨fun z hz => ?_, insI_sorted x (List.pairwise_cons.mp h).2⟩
      rcases List.mem_cons.mp ((insI_perm x ys).mem_iff.mp hz) with hz | hz
      · subst hz; omega
      · exact (List.pairwise_cons.mp h).1 z hz
theorem srtI_sorted : ∀ xs, (srtI xs).Pairwise (· ≤ ·)
  | [] => List.Pairwise.nil
  | x :: xs => insI_sorted x (srtI_sorted xs)
theorem srt_uniq : ∀ {xs ys : List Int}, xs.Perm ys → xs.Pairwise (· ≤ ·) → ys.Pairwise (· ≤ ·) → xs = ys
  | [], ys, p, _, _ => by simpa using p.symm.eq_nil
  | x :: xs, [], p, _, _ => by simpa using p.eq_nil
  | x :: xs, y :: ys, p, hx, hy => by
    have h1 : x ≤ y := by
      rcases List.mem_cons.mp (p.symm.subset (List.mem_cons_self ..) : y ∈ x :: xs) with h | h
      · omega
      · exact (List.pairwise_cons.mp hx).1 y h
    have h2 : y ≤ x := by
      rcases List.mem_cons.mp (p.subset (List.mem_cons_self ..) : x ∈ y :: ys) with h | h
      · omega
      · exact (List.pairwise_cons.mp hy).1 x h
    have e : x = y := by omega
    subst e
    rw [srt_uniq (List.Perm.cons_inv p) (List.pairwise_cons.mp hx).2 (List.pairwise_cons.mp hy).2]
theorem rc_sorted : RCL (rSorted K) (aC (rL rI) aN) rI (fun i => if i.1.length < 64 then some (srtI i.1) else none) := fun vs i z H G hv hz e Q q => by
  obtain ⟨v, ws, rfl, ⟨a, us, rfl, h2, h3⟩, rfl⟩ := hv
  have hz : (if i.1.length < 64 then some (srtI i.1) else none) = some z := hz
  split at hz
  · rename_i hl
    cases hz
    have h3' := pr_ints h3
    subst h3'
    refine ⟨a, i.1, rfl, Or.inl (Or.inl (e a _ h2)), hl, fun ns' p hp hs hn => ?_⟩
    have : ns' = srtI i.1 := srt_uniq (hp.trans (srtI_perm _).symm) hs (srtI_sorted _)
    subst this
    exact q p _ G hn (up_new e hn) (wd_new e hn (ints_pr _))
  · cases hz
def minL : List Int → Option Int
  | [] => none
  | [x] => some x
  | x :: y :: ys => (minL (y :: ys)).map fun m => if m < x then m else x
def maxL : List Int → Option Int
  | [] => none
  | [x] => some x
  | x :: y :: ys => (maxL (y :: ys)).map fun m => if m > x then m else x
theorem minL_ok : ∀ {xs : List Int} {m : Int}, minL xs = some m → m ∈ xs ∧ ∀ y ∈ xs, m ≤ y
  | [x], m, h => by cases h; exact ⟨List.mem_cons_self .., fun y hy => by rw [List.mem_singleton.mp hy]; exact Int.le_refl _⟩
  | x :: y :: ys, m, h => by
    unfold minL at h
    cases e : minL (y :: ys) with
    | none => rw [e] at h; cases h
    | some k =>
      obtain ⟨h1, h2⟩ := minL_ok e
      rw [e] at h
      have h' : (if k < x then k else x) = m := Option.some.inj h
      split at h'
      · subst h'
        exact ⟨List.mem_cons_of_mem _ h1, fun z hz => by
          rcases List.mem_cons.mp hz with hz | hz
          · omega
          · exact h2 z hz⟩
      · subst h'
        exact ⟨List.mem_cons_self .., fun z hz => by
          rcases List.mem_cons.mp hz with hz | hz
          · omega
          · have := h2 z hz; omega⟩
theorem maxL_ok : ∀ {xs : List Int} {m : Int}, maxL xs = some m → m ∈ xs ∧ ∀ y ∈ xs, y ≤ m
  | [x], m, h => by cases h; exact ⟨List.mem_cons_self .., fun y hy => by rw [List.mem_singleton.mp hy]; exact Int.le_refl _⟩
  | x :: y :: ys, m, h => by
    unfold maxL at h
    cases e : maxL (y :: ys) with
    | none => rw [e] at h; cases h
    | some k =>
      obtain ⟨h1, h2⟩ := maxL_ok e
      rw [e] at h
      have h' : (if k > x then k else x) = m := Option.some.inj h
      split at h'
      · subst h'
        exact ⟨List.mem_cons_of_mem _ h1, fun z hz => by
          rcases List.mem_cons.mp hz with hz | hz
          · omega
          · exact h2 z hz⟩
      · subst h'
        exact ⟨List.mem_cons_self .., fun z hz => by
          rcases List.mem_cons.mp hz with hz | hz
          · omega
          · have := h2 z hz; omega⟩
theorem rc_minL : RC (rMin K) (aC (rL rI) aN) rI (fun i => minL i.1) := fun vs i z H G hv hz e Q q => by
  obtain ⟨v, ws, rfl, ⟨a, us, rfl, h2, h3⟩, rfl⟩ := hv
  have h3' := pr_ints h3
  subst h3'
  obtain ⟨m1, m2⟩ := minL_ok hz
  refine ⟨a, i.1, rfl, Or.inl (Or.inl (e a _ h2)), List.length_pos_of_mem m1, fun m hm hle => ?_⟩
  have : m = z := by have := hle z m1; have := m2 m hm; omega
  subst this
  exact q _ H G (Up.refl e) rfl
theorem rc_maxL : RC (rMax K) (aC (rL rI) aN) rI (fun i => maxL i.1) := fun vs i z H G hv hz e Q q => by
  obtain ⟨v, ws, rfl, ⟨a, us, rfl, h2, h3⟩, rfl⟩ := hv
  have h3' := pr_ints h3
  subst h3'
  obtain ⟨m1, m2⟩ := maxL_ok hz
  refine ⟨a, i.1, rfl, Or.inl (Or.inl (e a _ h2)), List.length_pos_of_mem m1, fun m hm hle => ?_⟩
  have : m = z := by have := hle z m1; have := m2 m hm; omega
  subst this
  exact q _ H G (Up.refl e) rfl

/-! ### displays -/
theorem e_pair {ma : Option α} {mb : Option β} (ha : E ta σ G W R ma) (hb : E tb σ G W S mb) : E (tTup (tCons ta (tCons tb tNil))) σ G W (rP R S) (ma >>= fun x => mb >>= fun y => some (x, y)) := fun z hz H e e' Q q => by
  obtain ⟨x, hx, hz⟩ := bindS hz
  obtain ⟨y, hy, hz⟩ := bindS hz
  cases hz
  refine ha x hx H e e' _ fun v H1 G1 u1 r1 => ?_
  refine (hb.mono u1.gg (e'.trans u1.hh)) y hy H1 u1.gh (Ex.refl _) _ fun w H2 G2 u2 r2 => ?_
  refine ⟨by show 2 ≤ sizeLine; decide, fun p hp => q _ _ _ ((u1.trans u2).trans (Up.lay u2.gh hp)) ⟨p, v, w, rfl, upd_same, R.mono (u2.gg.trans (Ex.new (fresh_back u2.gh hp))) r1, S.mono (Ex.new (fresh_back u2.gh hp)) r2⟩⟩
end
end Sim

namespace Sim
open PySem L2 Evl

/-! ### mirrors of loops -/
inductive Stp (σ ρ : Type) where
  | nx (s : σ)
  | br (s : σ)
  | rt (r : ρ)
section
variable {α σ ρ : Type}
def stpK (k : σ → Option (σ ⊕ ρ)) : Stp σ ρ → Option (σ ⊕ ρ)
  | .nx s => k s
  | .br s => some (.inl s)
  | .rt r => some (.inr r)
def forL (body : α → σ → Option (Stp σ ρ)) : List α → σ → Option (σ ⊕ ρ)
  | [], s => some (.inl s)
  | x :: xs, s => body x s >>= stpK (forL body xs)
def forS (body : α → σ → Option σ) : List α → σ → Option σ
  | [], s => some s
  | x :: xs, s => body x s >>= forS body xs
theorem drop_at {xs : List α} {i : Nat} {x : α} (h : xs[i]? = some x) : xs.drop i = x :: xs.drop (i + 1) := by
  obtain ⟨hl, e⟩ := List.getElem?_eq_some_iff.mp h
  rw [List.drop_eq_getElem_cons hl, e]
theorem forL_at {body : α → σ → Option (Stp σ ρ)} {xs : List α} {i : Nat} {x : α} {s : σ} {r : σ ⊕ ρ} (h : xs[i]? = some x) (hm : forL body (xs.drop i) s = some r) :
    ∃ t, body x s = some t ∧ stpK (forL body (xs.drop (i + 1))) t = some r := by
  rw [drop_at h] at hm
  exact bindS hm
theorem forL_end {body : α → σ → Option (Stp σ ρ)} {xs : List α} {s : σ} {r : σ ⊕ ρ} (hm : forL body (xs.drop xs.length) s = some r) : .inl s = r := by
  rw [List.drop_length] at hm
  exact Option.some.inj hm
theorem forS_at {body : α → σ → Option σ} {xs : List α} {i : Nat} {x : α} {s r : σ} (h : xs[i]? = some x) (hm : forS body (xs.drop i) s = some r) :
    ∃ t, body x s = some t ∧ forS body (xs.drop (i + 1)) t = some r := by
  rw [drop_at h] at hm
  exact bindS hm
theorem forS_end {body : α → σ → Option σ} {xs : List α} {s r : σ} (hm : forS body (xs.drop xs.length) s = some r) : s = r := by
  rw [List.drop_length] at hm
  exact Option.some.inj hm
end
/-- range(lo, hi) -/
def rng (lo hi : Int) : List Int := (List.range (hi - lo).toNat).map fun (i : Nat) => lo + (i : Int)
theorem rng_get {lo hi : Int} {i : Nat} (h : i < (hi - lo).toNat) : (rng lo hi)[i]? = some (lo + i) := by
  unfold rng
  rw [List.getElem?_map, List.getElem?_range h]
  rfl
theorem rng_len (lo hi : Int) : (rng lo hi).length = (hi - lo).toNat := by
  unfold rng
  rw [List.length_map, List.length_range]
def rngM (lo hi : Int) : Option (List Int) := if -100000 ≤ lo ∧ lo ≤ 100000 ∧ -100000 ≤ hi ∧ hi ≤ 100000 then some (rng lo hi) else none

/-! ### the world of a def -/
section
variable {K : PySem.W.Frag} {σ : L2.St} {G0 H0 G H G2 H2 : Hp} {ls : List Addr} {cs : Cs} {l : Addr} {cp cp' : CP} {ta tb te tc : TE} {t u : TT} {α β γ ι κ : Type} {R : Rep α} {S : Rep β} {T : Rep γ} {A : AR ι}
theorem Wo.start (e : Ex G H) : Wo G H [] G H [] := ⟨Wd.nil e, Fr.refl, fun _ h => absurd h List.not_mem_nil⟩
theorem Wo.startC (w : Wd G H cs) : Wo G H (cs.map (·.1)) G H cs := ⟨w, Fr.refl, fun c h => .inl (List.mem_map_of_mem (f := (·.1)) h)⟩
theorem Wo.rlAt {i : Nat} {xs : List α} (w : Wo G0 H0 ls G H cs) (h : cs[i]? = some (l, cL R xs)) : (rL R).r H (.ref l) xs := by
  obtain ⟨h1, o, h2, vs, rfl, h3⟩ := w.w.getAt h
  exact ⟨l, vs, rfl, h2, Paired.mapP h3 fun _ _ => R.mono w.ex⟩
theorem set_map {i : Nat} {c : Addr × CP} (h : cs[i]? = some c) : (cs.set i (c.1, cp')).map (·.1) = cs.map (·.1) := by
  rw [List.map_set]
  have : (cs.map (·.1))[i]? = some c.1 := by rw [List.getElem?_map, h]; rfl
  obtain ⟨hl, e⟩ := List.getElem?_eq_some_iff.mp this
  conv => lhs; rw [← e]
  exact List.set_getElem_self hl
theorem mem_set_cell {i : Nat} {c : Addr × CP} (nd : (cs.map (·.1)).Nodup) (h : cs[i]? = some (l, cp)) (hc : c ∈ cs.set i (l, cp')) : c = (l, cp') ∨ (c ∈ cs ∧ c.1 ≠ l) := by
  obtain ⟨j, hj, e⟩ := List.getElem_of_mem hc
  by_cases q : i = j
  · subst q; left; rw [← e]; simp
  · right
    rw [List.getElem_set_ne q] at e
    have hj' : j < cs.length := by rw [List.length_set] at hj; exact hj
    refine ⟨e ▸ List.getElem_mem hj', fun z => q ?_⟩
    have h1 : (cs.map (·.1))[i]? = some l := by rw [List.getElem?_map, h]; rfl
    have h2 : (cs.map (·.1))[j]? = some l := by rw [List.getElem?_map, List.getElem?_eq_getElem hj', e]; exact congrArg some z
    exact nodup_ix nd h1 h2
theorem Wo.writeAt {i : Nat} (w : Wo G0 H0 ls G H cs) (h : cs[i]? = some (l, cp)) {o : HO} (hp : cp'.p G o) : Wo G0 H0 ls G (upd H l o) (cs.set i (l, cp')) := by
  obtain ⟨h1, o1, h2, h3⟩ := w.w.getAt h
  have hl : l ∈ ls ∨ H0 l = none := w.lo _ (List.mem_of_getElem? h)
  refine ⟨⟨fun a u e => ?_, fun c hc => ?_, ?_⟩, w.f.put hl, fun c hc => ?_⟩
  · rw [upd_ne (fun z => by subst z; rw [h1] at e; cases e)]; exact w.ex a u e
  · rcases mem_set_cell w.w.nd h hc with hc | ⟨hc, ne⟩
    · subst hc; exact ⟨h1, o, upd_same, hp⟩
    · obtain ⟨k1, o', k2, k3⟩ := w.w.at_ c hc
      exact ⟨k1, o', by rw [upd_ne ne]; exact k2, k3⟩
  · rw [set_map (c := (l, cp)) h]; exact w.w.nd
  · rcases mem_set_cell w.w.nd h hc with hc | ⟨hc, ne⟩
    · subst hc; exact hl
    · exact w.lo c hc
/-- a new list made by an expression becomes a cell -/
theorem Wo.newL {p : Addr} {xs : List α} (w : Wo G0 H0 ls G H cs) (n : H p = none) (u : Up G H G2 H2) (w2 : Wd G2 H2 [(p, cL R xs)]) : Wo G0 H0 ls G2 H2 ((p, cL R xs) :: cs) := by
  have n0 : H0 p = none := by
    cases q : H0 p with
    | none => rfl
    | some o => exact absurd n (w.f.st p (by rw [q]; simp))
  have w3 := w.up u
  refine ⟨⟨w3.ex, fun c hc => ?_, ?_⟩, w3.f, fun c hc => ?_⟩
  · rcases List.mem_cons.mp hc with hc | hc
    · subst hc; exact w2.head
    · exact w3.w.at_ c hc
  · refine List.nodup_cons.mpr ⟨fun hm => ?_, w.w.nd⟩
    obtain ⟨c, hc, e⟩ := List.mem_map.mp hm
    obtain ⟨_, o', h2, _⟩ := w.w.at_ c hc
    exact ne_of_none h2 n e
  · rcases List.mem_cons.mp hc with hc | hc
    · subst hc; exact .inr n0
    · exact w.lo c hc
/-- a list cell of the def's own becomes data -/
theorem Wo.freezeAt {i : Nat} {xs : List α} (w : Wo G0 H0 ls G H cs) (h : cs[i]? = some (l, cL R xs)) (hl : H0 l = none) : ∃ G2, Wo G0 H0 ls G2 H (cs.eraseIdx i) ∧ Ex G G2 ∧ (rL R).r G2 (.ref l) xs := by
  obtain ⟨h1, o, h2, vs, rfl, h3⟩ := w.w.getAt h
  refine ⟨upd G l (.lst vs), ⟨⟨fun a u e => ?_, fun c hc => ?_, ?_⟩, ⟨w.f.gg.trans (Ex.new h1), w.f.fr, fun a k1 k2 => ?_, w.f.st⟩, fun c hc => w.lo c (List.mem_of_mem_eraseIdx hc)⟩, Ex.new h1, l, vs, rfl, upd_same, Paired.mapP h3 fun _ _ => R.mono (Ex.new h1)⟩
  · by_cases q : a = l
    · subst q; rw [upd_same] at e; cases e; exact h2
    · rw [upd_ne q] at e; exact w.ex a u e
  · obtain ⟨k1, o', k2, k3⟩ := w.w.at_ c (List.mem_of_mem_eraseIdx hc)
    obtain ⟨j, hj, e⟩ := List.getElem?_of_mem hc |>.imp fun _ h => (⟨trivial, h⟩ : True ∧ _)
    have ne : c.1 ≠ l := fun z => by
      rw [List.getElem?_eraseIdx] at e
      have hi : (cs.map (·.1))[i]? = some l := by rw [List.getElem?_map, h]; rfl
      split at e
      · rename_i hlt
        have : (cs.map (·.1))[j]? = some l := by rw [List.getElem?_map, e]; exact congrArg some z
        have := nodup_ix w.w.nd hi this
        omega
      · rename_i hlt
        have : (cs.map (·.1))[j + 1]? = some l := by rw [List.getElem?_map, e]; exact congrArg some z
        have := nodup_ix w.w.nd hi this
        omega
    exact ⟨by rw [upd_ne ne]; exact k1, o', k2, c.2.mono (Ex.new h1) k3⟩
  · exact List.Pairwise.sublist ((List.eraseIdx_sublist cs i).map (·.1)) w.w.nd
  · have ne : a ≠ l := fun z => by subst z; exact k1 hl
    rw [upd_ne ne]; exact w.f.nw a k1 k2
/-- behind a call that changed the i-th cell alone -/
theorem Wo.call1 {i : Nat} (w : Wo G0 H0 ls G H cs) (h : cs[i]? = some (l, cp)) (f : Fr G H G2 H2 [l]) (w2 : Wd G2 H2 [(l, cp')]) : Wo G0 H0 ls G2 H2 (cs.set i (l, cp')) := by
  have hl : l ∈ ls ∨ H0 l = none := w.lo _ (List.mem_of_getElem? h)
  refine ⟨⟨w2.ex, fun c hc => ?_, by rw [set_map (c := (l, cp)) h]; exact w.w.nd⟩, ⟨w.f.gg.trans f.gg, fun a o h1 h2 => ?_, fun a h1 h2 => f.nw a (w.f.st a h1) (w.f.nw a h1 h2), fun a h1 => f.st a (w.f.st a h1)⟩, fun c hc => ?_⟩
  · rcases mem_set_cell w.w.nd h hc with hc | ⟨hc, ne⟩
    · subst hc; exact w2.head
    · obtain ⟨k1, o', k2, k3⟩ := w.w.at_ c hc
      exact ⟨f.nw _ (by rw [k2]; simp) k1, o', f.fr _ _ k2 (fun z => ne (List.mem_singleton.mp z)), c.2.mono f.gg k3⟩
  · refine f.fr a o (w.f.fr a o h1 h2) fun z => ?_
    rw [List.mem_singleton.mp z] at h1 h2
    rcases hl with q | q
    · exact h2 q
    · rw [q] at h1; cases h1
  · rcases mem_set_cell w.w.nd h hc with hc | ⟨hc, ne⟩
    · subst hc; exact hl
    · exact w.lo c hc
theorem Wo.sub1 {i : Nat} (w : Wo G0 H0 ls G H cs) (h : cs[i]? = some (l, cp)) : Wd G H [(l, cp)] := ⟨w.ex, fun c hc => by
  rw [List.mem_singleton.mp hc]; exact w.w.at_ _ (List.mem_of_getElem? h), List.nodup_cons.mpr ⟨List.not_mem_nil, List.nodup_nil⟩⟩
/-- the ends of a def -/
theorem Wo.upE (w : Wo G0 H0 [] G H cs) : Up G0 H0 G H := ⟨w.f.gg, w.ex, fun a o h => w.f.fr a o h List.not_mem_nil, w.f.nw⟩
end
end Sim

namespace Sim
open PySem L2 Evl
section
variable {K : PySem.W.Frag} {σ : L2.St} {G0 H0 G H G2 H2 W : Hp} {ls : List Addr} {cs : Cs} {l : Addr} {cp cp' : CP} {ta tb te tc : TE} {t u : TT} {α β γ ι κ : Type} {R : Rep α} {S : Rep β} {T : Rep γ} {A : AR ι} {D : Ends} {tu tv tz : TS} {g : TG}

/-! ### expressions in the world -/
theorem c_e {m : Option α} {x : α} {Q : VK} (w : Wo G0 H0 ls G H cs) (h : E te σ G H R m) (hm : m = some x) (k : ∀ v H2 G2, Wo G0 H0 ls G2 H2 cs → Ex G G2 → R.r G2 v x → Q v H2) : te σ H Q :=
  h x hm H w.ex (Ex.refl _) Q fun v H2 G2 u r => k v H2 G2 (w.up u) u.gg r
/-- scalars: the value is written out, the data heap stays -/
theorem c_i {m : Option Int} {x : Int} {Q : VK} (w : Wo G0 H0 ls G H cs) (h : E te σ G H rI m) (hm : m = some x) (k : ∀ H2, Wo G0 H0 ls G H2 cs → Q (.int x) H2) : te σ H Q :=
  h x hm H w.ex (Ex.refl _) Q fun v H2 G2 u r => by cases r; exact k H2 (w.sc u.hh)
theorem c_s {m : Option Str} {x : Str} {Q : VK} (w : Wo G0 H0 ls G H cs) (h : E te σ G H rS m) (hm : m = some x) (k : ∀ H2, Wo G0 H0 ls G H2 cs → Q (.str x) H2) : te σ H Q :=
  h x hm H w.ex (Ex.refl _) Q fun v H2 G2 u r => by cases r; exact k H2 (w.sc u.hh)
theorem c_l {m : Option (List α)} {x : List α} {Q : VK} (w : Wo G0 H0 ls G H cs) (h : EL te σ G H R m) (hm : m = some x) (k : ∀ p H2 G2, H0 p = none → Wo G0 H0 ls G2 H2 ((p, cL R x) :: cs) → Ex G G2 → Q (.ref p) H2) : te σ H Q :=
  h x hm H w.ex (Ex.refl _) Q fun p H2 G2 hp u w2 => k p H2 G2 (by
    cases q : H0 p with
    | none => rfl
    | some o => exact absurd hp (w.f.st p (by rw [q]; simp))) (w.newL hp u w2) u.gg
theorem c_t {m : Option Bool} {b : Bool} {Q : Bool → Hp → Prop} (w : Wo G0 H0 ls G H cs) (h : ET t σ H m) (hm : m = some b) (k : ∀ H2, Wo G0 H0 ls G H2 cs → Q b H2) : t σ H Q :=
  h b hm H (Ex.refl _) Q fun H2 e => k H2 (w.sc e)
/-- an operation on values that stand -/
theorem c_rr {r : R2} {f : α → β → Option γ} {v w' : V} {x : α} {y : β} {z : γ} {Q : VK} (hr : RR r R S T f) (w : Wo G0 H0 ls G H cs) (hv : R.r G v x) (hw : S.r G w' y) (hz : f x y = some z)
    (k : ∀ u H2 G2, Wo G0 H0 ls G2 H2 cs → Ex G G2 → T.r G2 u z → Q u H2) : r v w' H Q := hr v w' x y z H G hv hw hz w.ex Q fun u H2 G2 up r => k u H2 G2 (w.up up) up.gg r
/-! ### a def that changes one cell -/
/-- (l, more) with the cell's items ys: f ys more = (x, ys') -/
abbrev P1 {κ α ι : Type} (A : AR ι) (C : Rep κ) (R : Rep α) (f : List κ → ι → Option (α × List κ)) : Sp := PM (aC rA A) (fun i k => [(i.1, cL C k)]) R (fun i k => f k i.2)
abbrev P1L {κ α ι : Type} (A : AR ι) (C : Rep κ) (R : Rep α) (f : List κ → ι → Option (List α × List κ)) : Sp := PML (aC rA A) (fun i k => [(i.1, cL C k)]) R (fun i k => f k i.2)
theorem c_p1 {C : Rep κ} {f : List κ → ι → Option (α × List κ)} {vs : List V} {i : Nat} {j : ι} {ys ys' : List κ} {x : α} {Q : VK} {X : XK} (w : Wo G0 H0 ls G H cs) (hc : cs[i]? = some (l, cL C ys)) (hv : A.r G vs j) (hz : f ys j = some (x, ys'))
    (k : ∀ v H2 G2, Wo G0 H0 ls G2 H2 (cs.set i (l, cL C ys')) → Ex G G2 → R.r G2 v x → Q v H2) : P1 A C R f (.ref l :: vs) H Q X :=
  ⟨G, (l, j), ys, x, ys', ⟨.ref l, vs, rfl, rfl, hv⟩, w.sub1 hc, hz, fun v H2 G2 fr w2 r => k v H2 G2 (w.call1 hc fr w2) fr.gg r⟩
theorem Wo.call1L {i : Nat} {p : Addr} {cq : CP} (w : Wo G0 H0 ls G H cs) (h : cs[i]? = some (l, cp)) (hp : H p = none) (f : Fr G H G2 H2 [l]) (w2 : Wd G2 H2 [(p, cq), (l, cp')]) : Wo G0 H0 ls G2 H2 ((p, cq) :: cs.set i (l, cp')) := by
  have n0 : H0 p = none := by
    cases q : H0 p with
    | none => rfl
    | some o => exact absurd hp (w.f.st p (by rw [q]; simp))
  have w3 := w.call1 h f w2.tail
  refine ⟨⟨w3.ex, fun c hc => ?_, ?_⟩, w3.f, fun c hc => ?_⟩
  · rcases List.mem_cons.mp hc with hc | hc
    · subst hc; exact w2.head
    · exact w3.w.at_ c hc
  · refine List.nodup_cons.mpr ⟨fun hm => ?_, w3.w.nd⟩
    rw [Sim.set_map (c := (l, cp)) h] at hm
    obtain ⟨c, hc, e⟩ := List.mem_map.mp hm
    obtain ⟨_, o', h2, _⟩ := w.w.at_ c hc
    exact ne_of_none h2 hp e
  · rcases List.mem_cons.mp hc with hc | hc
    · subst hc; exact .inr n0
    · exact w3.lo c hc
theorem c_p1l {C : Rep κ} {f : List κ → ι → Option (List α × List κ)} {vs : List V} {i : Nat} {j : ι} {ys ys' : List κ} {x : List α} {Q : VK} {X : XK} (w : Wo G0 H0 ls G H cs) (hc : cs[i]? = some (l, cL C ys)) (hv : A.r G vs j) (hz : f ys j = some (x, ys'))
    (k : ∀ p H2 G2, H0 p = none → Wo G0 H0 ls G2 H2 ((p, cL R x) :: cs.set i (l, cL C ys')) → Ex G G2 → Q (.ref p) H2) : P1L A C R f (.ref l :: vs) H Q X :=
  ⟨G, (l, j), ys, x, ys', ⟨.ref l, vs, rfl, rfl, hv⟩, w.sub1 hc, hz, fun p H2 G2 hp fr w2 => k p H2 G2 (by
    cases q : H0 p with
    | none => rfl
    | some o => exact absurd hp (w.f.st p (by rw [q]; simp))) (w.call1L hc hp fr w2) fr.gg⟩

/-! ### readings opened -/
theorem o_nil {Q : List V → Hp → Prop} (h : Q [] H) : tNil σ H Q := h
theorem o_cons {tr : TA} {Q : List V → Hp → Prop} (h : ta σ H fun x H1 => tr σ H1 fun xs H2 => Q (x :: xs) H2) : tCons ta tr σ H Q := h
theorem o_op {r : R2} {Q : VK} (h : ta σ H fun x H1 => tb σ H1 fun y H2 => r x y H2 Q) : tOp r ta tb σ H Q := h
theorem o_call {sp : Sp} {X : XK} {ta : TA} {Q : VK} (h : ta σ H fun vs H1 => sp vs H1 Q X) : tCall sp [] X ta σ H Q := by
  show ta σ H fun vs H1 => sp (vs ++ []) H1 Q X
  have : (fun (vs : List V) (H1 : Hp) => sp (vs ++ []) H1 Q X) = fun vs H1 => sp vs H1 Q X := by funext vs H1; rw [List.append_nil]
  rw [this]; exact h
theorem o_cb {r : List V → Hp → VK → Prop} {ta : TA} {Q : VK} (h : ta σ H fun vs H1 => r vs H1 Q) : tCB r ta σ H Q := h
theorem o_var {i : Nat} {v : V} {Q : VK} (hi : σ[i]? = some (some v)) (h : Q v H) : tVar i σ H Q := ⟨v, hi, h⟩
/-! ### statements -/
theorem x_next {f b c : L2.St → Hp → Prop} {r : VK} (h : f σ H) : tNext { nx := f, rt := r, bk := b, ct := c } σ H := h
theorem x_set {i : Nat} {m : Option α} {x : α} (w : Wo G0 H0 ls G H cs) (h : E te σ G H R m) (hm : m = some x) (k : ∀ v H2 G2, Wo G0 H0 ls G2 H2 cs → Ex G G2 → R.r G2 v x → tz D (σ.set i (some v)) H2) : tSeq (tAsg te (gName i)) tz D σ H :=
  c_e (Q := fun x H1 => gName i x σ H1 (tz D)) w h hm k
theorem x_setI {i : Nat} {m : Option Int} {x : Int} (w : Wo G0 H0 ls G H cs) (h : E te σ G H rI m) (hm : m = some x) (k : ∀ H2, Wo G0 H0 ls G H2 cs → tz D (σ.set i (some (.int x))) H2) : tSeq (tAsg te (gName i)) tz D σ H :=
  c_i (Q := fun x H1 => gName i x σ H1 (tz D)) w h hm k
theorem x_setS {i : Nat} {m : Option Str} {x : Str} (w : Wo G0 H0 ls G H cs) (h : E te σ G H rS m) (hm : m = some x) (k : ∀ H2, Wo G0 H0 ls G H2 cs → tz D (σ.set i (some (.str x))) H2) : tSeq (tAsg te (gName i)) tz D σ H :=
  c_s (Q := fun x H1 => gName i x σ H1 (tz D)) w h hm k
theorem x_setL {i : Nat} {m : Option (List α)} {x : List α} (w : Wo G0 H0 ls G H cs) (h : EL te σ G H R m) (hm : m = some x) (k : ∀ p H2 G2, H0 p = none → Wo G0 H0 ls G2 H2 ((p, cL R x) :: cs) → Ex G G2 → tz D (σ.set i (some (.ref p))) H2) : tSeq (tAsg te (gName i)) tz D σ H :=
  c_l (Q := fun x H1 => gName i x σ H1 (tz D)) w h hm k
/-- name = an expression that changes cells: opened -/
theorem x_setO {i : Nat} (h : te σ H fun v H1 => tz D (σ.set i (some v)) H1) : tSeq (tAsg te (gName i)) tz D σ H := h
theorem x_if {m : Option Bool} {b : Bool} (w : Wo G0 H0 ls G H cs) (h : ET t σ H m) (hm : m = some b) (h1 : b = true → ∀ H2, Wo G0 H0 ls G H2 cs → tu { D with nx := tz D } σ H2) (h2 : b = false → ∀ H2, Wo G0 H0 ls G H2 cs → tv { D with nx := tz D } σ H2) :
    tSeq (tIfS t tu tv) tz D σ H := c_t (Q := fun b H1 => if b = true then tu { D with nx := tz D } σ H1 else tv { D with nx := tz D } σ H1) w h hm fun H2 w2 => by
  cases b with
  | true => exact h1 rfl H2 w2
  | false => exact h2 rfl H2 w2
theorem x_ret {m : Option α} {x : α} (w : Wo G0 H0 ls G H cs) (h : E te σ G H R m) (hm : m = some x) (k : ∀ v H2 G2, Wo G0 H0 ls G2 H2 cs → Ex G G2 → R.r G2 v x → D.rt v H2) : tSeq (tRet te) tz D σ H := c_e (Q := D.rt) w h hm k
theorem x_retL {m : Option (List α)} {x : List α} (w : Wo G0 H0 ls G H cs) (h : EL te σ G H R m) (hm : m = some x) (k : ∀ p H2 G2, H0 p = none → Wo G0 H0 ls G2 H2 ((p, cL R x) :: cs) → Ex G G2 → D.rt (.ref p) H2) : tSeq (tRet te) tz D σ H := c_l (Q := D.rt) w h hm k
theorem x_retO (h : te σ H D.rt) : tSeq (tRet te) tz D σ H := h
theorem x_drop (h : te σ H fun _ H1 => tz D σ H1) : tSeq (tDrop te) tz D σ H := h
theorem x_aug {i : Nat} {a b z : Int} {m : Option Int} {f : Int → Int → Option Int} {ti : TIp} (w : Wo G0 H0 ls G H cs) (hi : σ[i]? = some (some (.int a))) (h : E te σ G H rI m) (hm : m = some b) (hr : RR ti rI rI rI f) (hz : f a b = some z)
    (k : ∀ H2, Wo G0 H0 ls G H2 cs → tz D (σ.set i (some (.int z))) H2) : tSeq (tAug i te ti) tz D σ H :=
  ⟨.int a, hi, c_i (Q := fun y H1 => ti (.int a) y H1 fun z H2 => tz D (σ.set i (some z)) H2) w h hm fun H2 w2 => hr _ _ a b z H2 G rfl rfl hz w2.ex _ fun u H3 G3 up r => by cases r; exact k H3 (w2.sc up.hh)⟩
/-! ### list cells, by methods -/
theorem x_app {i j : Nat} {m : Option α} {x : α} {xs : List α} (w : Wo G0 H0 ls G H cs) (hc : cs[j]? = some (l, cL R xs)) (hs : sz xs.length = true) (hi : σ[i]? = some (some (.ref l))) (h : E te σ G H R m) (hm : m = some x)
    (k : ∀ H2 G2, Wo G0 H0 ls G2 H2 (cs.set j (l, cL R (xs ++ [x]))) → Ex G G2 → tz D σ H2) : tSeq (tDrop (tBM K "list" rAppend (tVar i) (tCons te tNil))) tz D σ H := by
  obtain ⟨_, o, h2, vs, rfl, h3⟩ := w.w.getAt hc
  refine ⟨.ref l, hi, .inl ⟨rfl, vs, Or.inl (Or.inl h2)⟩, c_e (Q := fun x H1 => rAppend (.ref l) [x] H1 fun _ H3 => tz D σ H3) w h hm fun v H3 G3 w3 e r => ?_⟩
  obtain ⟨_, o3, k2, vs3, rfl, k3⟩ := w3.w.getAt hc
  refine ⟨l, vs3, v, rfl, rfl, k2, by rw [k3.length]; exact sz_l hs, k _ _ (w3.writeAt hc ⟨vs3 ++ [v], rfl, pr_app k3 (.cons r .nil)⟩) e⟩
/-- append, the item made by an expression that changes cells: the last step -/
theorem c_app {j : Nat} {x : α} {v : V} {xs : List α} {Q : VK} (w : Wo G0 H0 ls G H cs) (hc : cs[j]? = some (l, cL R xs)) (hs : sz xs.length = true) (r : R.r G v x) (k : ∀ H2, Wo G0 H0 ls G H2 (cs.set j (l, cL R (xs ++ [x]))) → Q .non H2) : rAppend (.ref l) [v] H Q := by
  obtain ⟨_, o3, k2, vs3, rfl, k3⟩ := w.w.getAt hc
  exact ⟨l, vs3, v, rfl, rfl, k2, by rw [k3.length]; exact sz_l hs, k _ (w.writeAt hc ⟨vs3 ++ [v], rfl, pr_app k3 (.cons r .nil)⟩)⟩
theorem o_bm {rr : V → List V → Hp → VK → Prop} {i j : Nat} {xs : List α} {ta : TA} {Q : VK} (w : Wo G0 H0 ls G H cs) (hc : cs[j]? = some (l, cL R xs)) (hi : σ[i]? = some (some (.ref l))) (h : ta σ H fun vs H2 => rr (.ref l) vs H2 Q) : tBM K "list" rr (tVar i) ta σ H Q := by
  obtain ⟨_, o, h2, vs, rfl, h3⟩ := w.w.getAt hc
  exact ⟨.ref l, hi, .inl ⟨rfl, vs, Or.inl (Or.inl h2)⟩, h⟩
theorem o_bm0 {rr : V → List V → Hp → VK → Prop} {i j : Nat} {xs : List α} {Q : VK} (w : Wo G0 H0 ls G H cs) (hc : cs[j]? = some (l, cL R xs)) (hi : σ[i]? = some (some (.ref l))) (h : rr (.ref l) [] H Q) : tBM0 K "list" rr (tVar i) σ H Q := by
  obtain ⟨_, o, h2, vs, rfl, h3⟩ := w.w.getAt hc
  exact ⟨.ref l, hi, .inl ⟨rfl, vs, Or.inl (Or.inl h2)⟩, h⟩
/-- xs.pop(), xs.pop(i), insert, reverse, clear -/
def popM (xs : List α) : Option (α × List α) := xs[xs.length - 1]? >>= fun x => some (x, xs.dropLast)
def popAtM (xs : List α) (i : Int) : Option (α × List α) := if -(2 ^ 63) ≤ i ∧ i < 2 ^ 63 then (seqIndex? i xs.length >>= fun k => xs[k]? >>= fun x => some (x, xs.eraseIdx k)) else none
def appM (xs : List α) (x : α) : Option (List α) := bif sz xs.length then some (xs ++ [x]) else none
theorem appM_ok {xs ys : List α} {x : α} (h : appM xs x = some ys) : sz xs.length = true ∧ ys = xs ++ [x] := by
  unfold appM at h
  cases e : sz xs.length with
  | true => rw [e] at h; exact ⟨rfl, (Option.some.inj h).symm⟩
  | false => rw [e] at h; cases h
theorem pr_take {R : V → α → Prop} : ∀ (n : Nat) {vs : List V} {xs : List α}, Paired R vs xs → Paired R (vs.take n) (xs.take n)
  | 0, _, _, _ => .nil
  | n + 1, _, _, .nil => .nil
  | n + 1, _, _, .cons r t => .cons r (pr_take n t)
theorem pr_drop {R : V → α → Prop} : ∀ (n : Nat) {vs : List V} {xs : List α}, Paired R vs xs → Paired R (vs.drop n) (xs.drop n)
  | 0, _, _, h => h
  | n + 1, _, _, .nil => .nil
  | n + 1, _, _, .cons r t => pr_drop n t
theorem pr_erase {R : V → α → Prop} : ∀ (n : Nat) {vs : List V} {xs : List α}, Paired R vs xs → Paired R (vs.eraseIdx n) (xs.eraseIdx n)
  | _, _, _, .nil => .nil
  | 0, _, _, .cons r t => t
  | n + 1, _, _, .cons r t => .cons r (pr_erase n t)
theorem pr_set {R : V → α → Prop} {v : V} {x : α} (r0 : R v x) : ∀ (n : Nat) {vs : List V} {xs : List α}, Paired R vs xs → Paired R (vs.set n v) (xs.set n x)
  | _, _, _, .nil => .nil
  | 0, _, _, .cons r t => .cons r0 t
  | n + 1, _, _, .cons r t => .cons r (pr_set r0 n t)
theorem pr_dropLast {R : V → α → Prop} {vs : List V} {xs : List α} (h : Paired R vs xs) : Paired R vs.dropLast xs.dropLast := by
  rw [List.dropLast_eq_take, List.dropLast_eq_take, h.length]; exact pr_take _ h
theorem pr_rev {R : V → α → Prop} : ∀ {vs : List V} {xs : List α}, Paired R vs xs → Paired R vs.reverse xs.reverse
  | _, _, .nil => .nil
  | _, _, .cons r t => by rw [List.reverse_cons, List.reverse_cons]; exact pr_app (pr_rev t) (.cons r .nil)
theorem c_pop {j : Nat} {x : α} {xs ys : List α} {Q : VK} (w : Wo G0 H0 ls G H cs) (hc : cs[j]? = some (l, cL R xs)) (hm : popM xs = some (x, ys)) (k : ∀ v H2, Wo G0 H0 ls G H2 (cs.set j (l, cL R ys)) → R.r G v x → Q v H2) : rPop (.ref l) [] H Q := by
  obtain ⟨_, o3, k2, vs, rfl, k3⟩ := w.w.getAt hc
  obtain ⟨x', hx, e⟩ := bindS hm
  cases e
  obtain ⟨v, hv, r⟩ := pr_get k3 hx
  exact ⟨l, vs, v, rfl, rfl, k2, by rw [k3.length]; exact hv, k v _ (w.writeAt hc ⟨vs.dropLast, rfl, pr_dropLast k3⟩) r⟩
theorem c_popAt {j : Nat} {i : Int} {x : α} {xs ys : List α} {Q : VK} (w : Wo G0 H0 ls G H cs) (hc : cs[j]? = some (l, cL R xs)) (hm : popAtM xs i = some (x, ys)) (k : ∀ v H2, Wo G0 H0 ls G H2 (cs.set j (l, cL R ys)) → R.r G v x → Q v H2) : rPopAt (.ref l) [.int i] H Q := by
  obtain ⟨_, o3, k2, vs, rfl, k3⟩ := w.w.getAt hc
  unfold popAtM at hm
  split at hm
  · rename_i hb
    obtain ⟨n, hn, hm⟩ := bindS hm
    obtain ⟨x', hx, e⟩ := bindS hm
    cases e
    obtain ⟨v, hv, r⟩ := pr_get k3 hx
    exact ⟨l, vs, i, n, v, rfl, rfl, k2, hb.1, hb.2, by rw [k3.length]; exact hn, hv, k v _ (w.writeAt hc ⟨vs.eraseIdx n, rfl, pr_erase n k3⟩) r⟩
  · cases hm
theorem c_rev {j : Nat} {xs : List α} {Q : VK} (w : Wo G0 H0 ls G H cs) (hc : cs[j]? = some (l, cL R xs)) (k : ∀ H2, Wo G0 H0 ls G H2 (cs.set j (l, cL R xs.reverse)) → Q .non H2) : rReverse (.ref l) [] H Q := by
  obtain ⟨_, o3, k2, vs, rfl, k3⟩ := w.w.getAt hc
  exact ⟨l, vs, rfl, rfl, k2, k _ (w.writeAt hc ⟨_, rfl, pr_rev k3⟩)⟩
/-- xs[i] = e -/
def setM (xs : List α) (i : Int) (x : α) : Option (List α) := ixN xs.length i >>= fun j => some (xs.set j x)
theorem x_setIx {a j : Nat} {te ti : TE} {m : Option α} {mi : Option Int} {x : α} {i : Int} {xs ys : List α} (w : Wo G0 H0 ls G H cs) (hc : cs[j]? = some (l, cL R xs)) (hi : σ[a]? = some (some (.ref l))) (h : E te σ G H R m) (hm : m = some x)
    (h' : E ti σ G H rI mi) (hm' : mi = some i) (hy : setM xs i x = some ys) (k : ∀ H2 G2, Wo G0 H0 ls G2 H2 (cs.set j (l, cL R ys)) → Ex G G2 → tz D σ H2) : tSeq (tAsg te (gSub (tVar a) ti rSetL)) tz D σ H :=
  h x hm H w.ex (Ex.refl _) (fun x H1 => gSub (tVar a) ti rSetL x σ H1 (tz D)) fun v H3 G3 u r => by
    have w3 := w.up u
    refine ⟨.ref l, hi, (h'.mono u.gg u.hh) i hm' H3 w3.ex (Ex.refl _) _ fun v' H4 G4 u' r' => ?_⟩
    cases r'
    have w4 := w3.up u'
    obtain ⟨_, o3, k2, vs, rfl, k3⟩ := w4.w.getAt hc
    obtain ⟨n, hn, e⟩ := bindS hy
    cases e
    exact ⟨l, vs, i, n, rfl, rfl, k2, by rw [k3.length]; exact hn, k _ _ (w4.writeAt hc ⟨_, rfl, pr_set (R.mono u'.gg r) n k3⟩) (u.gg.trans u'.gg)⟩

/-! ### loops -/
theorem x_forL {xs : List α} {tl : TE} {m : Option (List α)} (w : Wo G0 H0 ls G H cs) (h : E tl σ G H (rL R) m) (hm : m = some xs) (P : Nat → Hp → Hp → L2.St → Prop) (hP : ∀ i G' H' σ', P i G' H' σ' → Ex G' H')
    (h0 : ∀ G' H', Wo G0 H0 ls G' H' cs → Ex G G' → P 0 G' H' σ)
    (hs : ∀ G1, Ex G G1 → ∀ i x v σ' G' H', xs[i]? = some x → Ex G1 G' → P i G' H' σ' → R.r G' v x → g v σ' H' fun σ2 H2 => tu { D with nx := fun σ' H' => ∃ G', Ex G1 G' ∧ P (i + 1) G' H' σ', ct := fun σ' H' => ∃ G', Ex G1 G' ∧ P (i + 1) G' H' σ', bk := tz D } σ2 H2)
    (hd : ∀ σ' G' H', Ex G G' → P xs.length G' H' σ' → tz D σ' H') : tSeq (tFor (iList K tl) g tu) tz D σ H :=
  h xs hm H w.ex (Ex.refl _) _ fun v H1 G1 u r => by
    obtain ⟨a, vs, rfl, h2, h3⟩ := r
    refine ⟨a, rfl, ⟨vs, Or.inl (Or.inl (u.gh a _ h2))⟩, for_list (K := K) (a := a) (xs := vs) (fun i σ' H' => ∃ G', Ex G1 G' ∧ P i G' H' σ') ⟨G1, Ex.refl _, h0 G1 H1 (w.up u) u.gg⟩ ?_ ?_ ?_⟩
    · rintro i σ' H' _ ⟨G', e, p⟩
      exact Or.inl (Or.inl (hP _ _ _ _ p a _ (e a _ h2)))
    · rintro i y σ' H' hy ⟨G', e, p⟩
      obtain ⟨x, hx, r⟩ := pr_get' h3 hy
      exact hs G1 u.gg i x y σ' G' H' hx e p (R.mono e r)
    · rintro σ' H' ⟨G', e, p⟩
      rw [h3.length] at p
      exact hd σ' G' H' (u.gg.trans e) p
theorem x_forR {ta : TA} {n : Int} {m : Option (Int × Unit)} {xs : List Int} (w : Wo G0 H0 ls G H cs) (h : EA ta σ G H (aC rI aN) m) (hm : m = some (n, ())) (hx : rngM 0 n = some xs) (P : Nat → Hp → Hp → L2.St → Prop)
    (h0 : ∀ G' H', Wo G0 H0 ls G' H' cs → Ex G G' → P 0 G' H' σ)
    (hs : ∀ i x σ' G' H', xs[i]? = some x → P i G' H' σ' → g (.int x) σ' H' fun σ2 H2 => tu { D with nx := fun σ' H' => ∃ G', P (i + 1) G' H' σ', ct := fun σ' H' => ∃ G', P (i + 1) G' H' σ', bk := tz D } σ2 H2)
    (hd : ∀ σ' G' H', P xs.length G' H' σ' → tz D σ' H') : tSeq (tFor (iRng1 ta) g tu) tz D σ H :=
  h _ hm H w.ex (Ex.refl _) _ fun v H1 G1 u r => by
    obtain ⟨v1, ws, rfl, e1, rfl⟩ := r
    cases e1
    unfold rngM at hx
    split at hx
    · rename_i hb
      cases hx
      refine ⟨n, rfl, by omega, by omega, for_range (lo := 0) (n := n.toNat) (fun i σ' H' => ∃ G', P i G' H' σ') ⟨G1, h0 G1 H1 (w.up u) u.gg⟩ ?_ ?_⟩
      · rintro i σ' H' hi ⟨G', p⟩
        exact hs i _ σ' G' H' (rng_get (by omega)) p
      · rintro σ' H' ⟨G', p⟩
        refine hd σ' G' H' ?_
        rw [rng_len]
        have : (n - 0).toNat = n.toNat := by omega
        rw [this]; exact p
    · cases hx
theorem x_forR2 {ta : TA} {lo n : Int} {m : Option (Int × Int × Unit)} {xs : List Int} (w : Wo G0 H0 ls G H cs) (h : EA ta σ G H (aC rI (aC rI aN)) m) (hm : m = some (lo, n, ())) (hx : rngM lo n = some xs) (P : Nat → Hp → Hp → L2.St → Prop)
    (h0 : ∀ G' H', Wo G0 H0 ls G' H' cs → Ex G G' → P 0 G' H' σ)
    (hs : ∀ i x σ' G' H', xs[i]? = some x → P i G' H' σ' → g (.int x) σ' H' fun σ2 H2 => tu { D with nx := fun σ' H' => ∃ G', P (i + 1) G' H' σ', ct := fun σ' H' => ∃ G', P (i + 1) G' H' σ', bk := tz D } σ2 H2)
    (hd : ∀ σ' G' H', P xs.length G' H' σ' → tz D σ' H') : tSeq (tFor (iRng2 ta) g tu) tz D σ H :=
  h _ hm H w.ex (Ex.refl _) _ fun v H1 G1 u r => by
    obtain ⟨v1, ws, rfl, e1, v2, ws2, rfl, e2, rfl⟩ := r
    cases e1
    cases e2
    unfold rngM at hx
    split at hx
    · rename_i hb
      cases hx
      refine ⟨lo, n, rfl, ⟨by omega, by omega, by omega, by omega⟩, for_range (lo := lo) (n := (n - lo).toNat) (fun i σ' H' => ∃ G', P i G' H' σ') ⟨G1, h0 G1 H1 (w.up u) u.gg⟩ ?_ ?_⟩
      · rintro i σ' H' hi ⟨G', p⟩
        exact hs i _ σ' G' H' (rng_get hi) p
      · rintro σ' H' ⟨G', p⟩
        refine hd σ' G' H' ?_
        rw [rng_len]
        exact p
    · cases hx
theorem g_name {j : Nat} {v : V} {Q : L2.St → Hp → Prop} (h : Q (σ.set j (some v)) H) : gName j v σ H Q := h
theorem g_pair {i j : Nat} {v : V} {p : α × β} {Q : L2.St → Hp → Prop} (r : (rP R S).r G v p) (e : Ex G H) (k : ∀ x y, R.r G x p.1 → S.r G y p.2 → Q ((σ.set i (some x)).set j (some y)) H) : gTup K 2 (gCons (gName i) (gCons (gName j) gNil)) v σ H Q := by
  obtain ⟨a, x, y, rfl, h2, h3, h4⟩ := r
  exact ⟨a, [x, y], rfl, Or.inl (Or.inl (e a _ h2)), rfl, x, [y], rfl, y, [], rfl, rfl, k x y h3 h4⟩
end
end Sim

namespace Sim
open PySem L2 Evl
section
variable {α β : Type}
/-- [f2 x for x in xs if f x] -/
def lcM (f : α → Option Bool) (f2 : α → Option β) : List α → Option (List β)
  | [] => some []
  | x :: xs => f x >>= fun b => bif b then f2 x >>= fun y => lcM f f2 xs >>= fun ys => some (y :: ys) else lcM f f2 xs
/-- [f2 x for x in xs] -/
def mapO (f2 : α → Option β) : List α → Option (List β)
  | [] => some []
  | x :: xs => f2 x >>= fun y => mapO f2 xs >>= fun ys => some (y :: ys)
def lcS (f : α → Option Bool) (f2 : α → Option β) (xs : List α) : Option (List β) := bif sz xs.length then lcM f f2 xs else none
def mapS (f2 : α → Option β) (xs : List α) : Option (List β) := bif sz xs.length then mapO f2 xs else none
theorem lcM_true (f2 : α → Option β) : ∀ xs, lcM (fun _ => some true) f2 xs = mapO f2 xs
  | [] => rfl
  | x :: xs => by
    show (f2 x >>= fun y => lcM (fun _ => some true) f2 xs >>= fun ys => some (y :: ys)) = _
    rw [lcM_true f2 xs]; rfl
theorem mapS_eq (f2 : α → Option β) : mapS f2 = lcS (fun _ => some true) f2 := by
  funext xs
  unfold mapS lcS
  rw [lcM_true]
theorem lcS_ok {f : α → Option Bool} {f2 : α → Option β} {xs : List α} {ys : List β} (h : lcS f f2 xs = some ys) : sz xs.length = true ∧ lcM f f2 xs = some ys := by
  unfold lcS at h
  cases e : sz xs.length with
  | true => rw [e] at h; exact ⟨rfl, h⟩
  | false => rw [e] at h; cases h
end
section
variable {K : PySem.W.Frag} {σ : L2.St} {G H W : Hp} {te tl : TE} {tt : TT} {α β γ : Type} {R : Rep α} {S : Rep β} {T : Rep γ}
/-- a turn's word: the list so far, what is left -/
def Lw (G0 H0 : Hp) (T : Rep γ) (f : α → Option Bool) (f2 : α → Option γ) (xs : List α) (zs : List γ) (D : Addr) (i : Nat) (H : Hp) : Prop :=
  ∃ G acc ys rest, H0 D = none ∧ Up G0 H0 G H ∧ G D = none ∧ H D = some (.lst acc) ∧ Paired (T.r G) acc ys ∧ lcM f f2 (xs.drop i) = some rest ∧ ys ++ rest = zs ∧ ys.length ≤ i
theorem lw_turn {G0 H0 H : Hp} {f : α → Option Bool} {f2 : α → Option γ} {xs : List α} {zs : List γ} {D : Addr} {i : Nat} {x : α} {σ2 : L2.St} (hx : xs[i]? = some x) (hs : sz xs.length = true) (p : Lw G0 H0 T f f2 xs zs D i H)
    (ht : ∀ G', Ex G0 G' → Ex H0 H → Ex G' H → ET tt σ2 H (f x)) (he : ∀ G' H', Ex G0 G' → Ex H0 H' → Ex H H' → Ex G' H' → E te σ2 G' H' T (f2 x)) :
    tt σ2 H fun b H3 => if b = true then te σ2 H3 fun y H4 => ∃ acc, H4 D = some (.lst acc) ∧ acc.length < sizeLine ∧ Lw G0 H0 T f f2 xs zs D (i + 1) (upd H4 D (.lst (acc ++ [y]))) else Lw G0 H0 T f f2 xs zs D (i + 1) H3 := by
  obtain ⟨G, acc, ys, rest, p1, p2, p3, p4, p5, p6, p7, p8⟩ := p
  rw [drop_at hx] at p6
  obtain ⟨b, hb, p6⟩ := bindS p6
  have hi : i < xs.length := (List.getElem?_eq_some_iff.mp hx).1
  refine ht G p2.gg p2.hh p2.gh b hb H (Ex.refl _) _ fun H3 e3 => ?_
  cases b with
  | false => exact ⟨G, acc, ys, rest, p1, p2.trans (Up.same p2.gh e3), p3, e3 _ _ p4, p5, p6, p7, Nat.le_succ_of_le p8⟩
  | true =>
    obtain ⟨y, hy, p6⟩ := bindS p6
    obtain ⟨r2, hr, p6⟩ := bindS p6
    cases p6
    show te σ2 H3 _
    refine he G H3 p2.gg (p2.hh.trans e3) e3 (p2.gh.trans e3) y hy H3 (p2.gh.trans e3) (Ex.refl _) _ fun v H4 G4 u r => ?_
    have q2 : Up G0 H0 G4 H4 := (p2.trans (Up.same p2.gh e3)).trans u
    have q3 : G4 D = none := u.nw D (by rw [e3 _ _ p4]; simp) p3
    have q4 := u.hh _ _ (e3 _ _ p4)
    refine ⟨acc, q4, by rw [p5.length]; exact sz_lt (by have := of_decide_eq_true hs; omega), G4, acc ++ [v], ys ++ [y], r2, p1, ⟨q2.gg, fun a o h => ?_, Ex.mut q2.hh p1, q2.nw⟩, q3, upd_same, pr_app (Paired.mapP p5 fun _ _ => T.mono u.gg) (.cons r .nil), hr, by rw [List.append_assoc]; exact p7, by rw [List.length_append]; exact Nat.succ_le_succ p8⟩
    rw [upd_ne (fun z => by subst z; rw [q3] at h; cases h)]
    exact q2.gh a o h
theorem lw_end {G0 H0 H : Hp} {f : α → Option Bool} {f2 : α → Option γ} {xs : List α} {zs : List γ} {D : Addr} (p : Lw G0 H0 T f f2 xs zs D xs.length H) : ∃ G, H0 D = none ∧ Up G0 H0 G H ∧ Wd G H [(D, cL T zs)] := by
  obtain ⟨G, acc, ys, rest, p1, p2, p3, p4, p5, p6, p7, p8⟩ := p
  rw [List.drop_length] at p6
  cases p6
  rw [List.append_nil] at p7
  subst p7
  exact ⟨G, p1, p2, p2.gh, fun c hc => by
    rw [List.mem_singleton.mp hc]; exact ⟨p3, _, p4, acc, rfl, p5⟩, List.nodup_cons.mpr ⟨List.not_mem_nil, List.nodup_nil⟩⟩
theorem lw_start {G0 H0 : Hp} {f : α → Option Bool} {f2 : α → Option γ} {xs : List α} {zs : List γ} {D : Addr} (e : Ex G0 H0) (hD : H0 D = none) (h : lcM f f2 xs = some zs) : Lw G0 H0 T f f2 xs zs D 0 (upd H0 D (.lst [])) :=
  ⟨G0, [], [], zs, hD, up_new e hD, fresh_back e hD, upd_same, .nil, h, rfl, Nat.le_refl _⟩
theorem el_lcL {vs : List Nat} {j : Nat} {m : Option (List α)} {f : α → Option Bool} {f2 : α → Option γ} (h : E tl σ G W (rL R) m) (hw : ∀ x, wipe ((wipe σ vs).set j (some x)) vs = wipe σ vs)
    (ht : ∀ x v G' W', Ex G G' → Ex W W' → Ex G' W' → R.r G' v x → ET tt ((wipe σ vs).set j (some v)) W' (f x))
    (he : ∀ x v G' W', Ex G G' → Ex W W' → Ex G' W' → R.r G' v x → E te ((wipe σ vs).set j (some v)) G' W' T (f2 x)) :
    EL (tLc (iList K tl) (gName j) tt te vs) σ G W T (m >>= fun xs => lcS f f2 xs) := fun zs hz H e e' Q q => by
  obtain ⟨xs, hx, hz⟩ := bindS hz
  obtain ⟨hs, hz⟩ := lcS_ok hz
  refine h xs hx H e e' _ fun v H1 G1 u r => ?_
  obtain ⟨a, us, rfl, h2, h3⟩ := r
  refine ⟨a, rfl, ⟨us, Or.inl (Or.inl (u.gh a _ h2))⟩, fun D hD => lc_list (xs := us) (Lw G1 H1 T f f2 xs zs D) (lw_start u.gh hD hz) (fun i H' _ p => ?_) (fun i y H' hy p => ?_) fun H' p => ?_⟩
  · obtain ⟨G', _, _, _, _, p2, _⟩ := p
    exact Or.inl (Or.inl (p2.gh a _ (p2.gg a _ h2)))
  · obtain ⟨x, hx', r⟩ := pr_get' h3 hy
    exact ⟨hw y, lw_turn hx' hs p (fun G' e1 e2 e3 => ht x y G' H' (u.gg.trans e1) ((e'.trans u.hh).trans e2) e3 (R.mono e1 r)) fun G' H2 e1 e2 _ e3 => he x y G' H2 (u.gg.trans e1) ((e'.trans u.hh).trans e2) e3 (R.mono e1 r)⟩
  · rw [h3.length] at p
    obtain ⟨G', k1, k2, k3⟩ := lw_end p
    exact q D H' G' (fresh_back u.hh k1) (u.trans k2) k3
theorem el_lcR {ta : TA} {vs : List Nat} {j : Nat} {m : Option (Int × Unit)} {f : Int → Option Bool} {f2 : Int → Option γ} (h : EA ta σ G W (aC rI aN) m) (hw : ∀ x, wipe ((wipe σ vs).set j (some x)) vs = wipe σ vs)
    (ht : ∀ x G' W', Ex G G' → Ex W W' → Ex G' W' → ET tt ((wipe σ vs).set j (some (.int x))) W' (f x))
    (he : ∀ x G' W', Ex G G' → Ex W W' → Ex G' W' → E te ((wipe σ vs).set j (some (.int x))) G' W' T (f2 x)) :
    EL (tLc (iRng1 ta) (gName j) tt te vs) σ G W T (m >>= fun n => rngM 0 n.1 >>= fun xs => lcS f f2 xs) := fun zs hz H e e' Q q => by
  obtain ⟨n, hn, hz⟩ := bindS hz
  obtain ⟨xs, hx, hz⟩ := bindS hz
  obtain ⟨hs, hz⟩ := lcS_ok hz
  refine h n hn H e e' _ fun v H1 G1 u r => ?_
  obtain ⟨v1, ws, rfl, e1, rfl⟩ := r
  cases e1
  unfold rngM at hx
  split at hx
  · rename_i hb
    cases hx
    have hl : (rng 0 n.1).length = n.1.toNat := by rw [rng_len]; omega
    refine ⟨n.1, rfl, by omega, by omega, fun D hD => lc_range (lo := 0) (n := n.1.toNat) (Lw G1 H1 T f f2 (rng 0 n.1) zs D) (lw_start u.gh hD hz) (fun i H' hi p => ?_) fun H' p => ?_⟩
    · have hx' : (rng 0 n.1)[i]? = some (0 + (i : Int)) := rng_get (by omega)
      exact ⟨hw _, lw_turn hx' hs p (fun G' e1 e2 e3 => ht _ G' H' (u.gg.trans e1) ((e'.trans u.hh).trans e2) e3) fun G' H2 e1 e2 _ e3 => he _ G' H2 (u.gg.trans e1) ((e'.trans u.hh).trans e2) e3⟩
    · rw [← hl] at p
      obtain ⟨G', k1, k2, k3⟩ := lw_end p
      exact q D H' G' (fresh_back u.hh k1) (u.trans k2) k3
  · cases hx
/-- the target a pair of names -/
theorem el_lcP {vs : List Nat} {i j : Nat} {m : Option (List (α × β))} {f : α × β → Option Bool} {f2 : α × β → Option γ} (h : E tl σ G W (rL (rP R S)) m) (hw : ∀ x y, wipe (((wipe σ vs).set i (some x)).set j (some y)) vs = wipe σ vs)
    (ht : ∀ p v w G' W', Ex G G' → Ex W W' → Ex G' W' → R.r G' v p.1 → S.r G' w p.2 → ET tt (((wipe σ vs).set i (some v)).set j (some w)) W' (f p))
    (he : ∀ p v w G' W', Ex G G' → Ex W W' → Ex G' W' → R.r G' v p.1 → S.r G' w p.2 → E te (((wipe σ vs).set i (some v)).set j (some w)) G' W' T (f2 p)) :
    EL (tLc (iList K tl) (gTup K 2 (gCons (gName i) (gCons (gName j) gNil))) tt te vs) σ G W T (m >>= fun xs => lcS f f2 xs) := fun zs hz H e e' Q q => by
  obtain ⟨xs, hx, hz⟩ := bindS hz
  obtain ⟨hs, hz⟩ := lcS_ok hz
  refine h xs hx H e e' _ fun v H1 G1 u r => ?_
  obtain ⟨a, us, rfl, h2, h3⟩ := r
  refine ⟨a, rfl, ⟨us, Or.inl (Or.inl (u.gh a _ h2))⟩, fun D hD => lc_list (xs := us) (Lw G1 H1 T f f2 xs zs D) (lw_start u.gh hD hz) (fun i H' _ p => ?_) (fun k y H' hy p => ?_) fun H' p => ?_⟩
  · obtain ⟨G', _, _, _, _, p2, _⟩ := p
    exact Or.inl (Or.inl (p2.gh a _ (p2.gg a _ h2)))
  · obtain ⟨x, hx', b, v, w, rfl, k2, k3, k4⟩ := pr_get' h3 hy
    have k5 : H' b = some (.tup [v, w]) := by
      obtain ⟨G', _, _, _, _, p2, _⟩ := p
      exact p2.gh b _ (p2.gg b _ k2)
    refine ⟨b, [v, w], rfl, Or.inl (Or.inl k5), rfl, v, [w], rfl, w, [], rfl, rfl, hw v w, ?_⟩
    exact lw_turn hx' hs p (fun G' e1 e2 e3 => ht x v w G' H' (u.gg.trans e1) ((e'.trans u.hh).trans e2) e3 (R.mono e1 k3) (S.mono e1 k4)) fun G' H2 e1 e2 _ e3 => he x v w G' H2 (u.gg.trans e1) ((e'.trans u.hh).trans e2) e3 (R.mono e1 k3) (S.mono e1 k4)
  · rw [h3.length] at p
    obtain ⟨G', k1, k2, k3⟩ := lw_end p
    exact q D H' G' (fresh_back u.hh k1) (u.trans k2) k3
theorem et_yes : ET tYes σ W (some true) := fun b hb H _ Q q => by
  cases hb
  exact q H (Ex.refl _)
/-- no test: mapS -/
theorem el_map {m : Option (List α)} {f2 : α → Option γ} {te : TE} (h : EL te σ G W T (m >>= fun xs => lcS (fun _ => some true) f2 xs)) : EL te σ G W T (m >>= fun xs => mapS f2 xs) := by rw [mapS_eq]; exact h
theorem el_mapR {m : Option (Int × Unit)} {f2 : Int → Option γ} {te : TE} (h : EL te σ G W T (m >>= fun n => rngM 0 n.1 >>= fun xs => lcS (fun _ => some true) f2 xs)) : EL te σ G W T (m >>= fun n => rngM 0 n.1 >>= fun xs => mapS f2 xs) := by rw [mapS_eq]; exact h
end
end Sim

namespace Sim
open PySem L2 Evl
section
variable {K : PySem.W.Frag} {σ : L2.St} {G0 H0 G H G2 H2 W : Hp} {ls : List Addr} {cs : Cs} {l : Addr} {cp cp' : CP} {ta tb te tc : TE} {t u : TT} {α β γ ι κ : Type} {R : Rep α} {S : Rep β} {T : Rep γ} {A : AR ι} {D : Ends} {tu tv tz : TS} {g : TG}
theorem e_andP {a b : Bool} (h1 : E ta σ G W rB (some a)) (h2 : E tb σ G W rB (some b)) : E (tAndV ta tb) σ G W rB (some (a && b)) := by
  have h := e_andV h1 h2
  cases a <;> exact h
theorem et_andP {a b : Bool} (h1 : ET t σ W (some a)) (h2 : ET u σ W (some b)) : ET (tAnd t u) σ W (some (a && b)) := by
  have h := et_and h1 h2
  cases a <;> exact h
theorem et_orP {a b : Bool} (h1 : ET t σ W (some a)) (h2 : ET u σ W (some b)) : ET (tOr t u) σ W (some (a || b)) := by
  have h := et_or h1 h2
  cases a <;> exact h
/-- an option's value where it is one -/
theorem e_some {m : Option α} (h : E te σ G W R m) : E te σ G W (rO R) (m >>= fun x => some (some x)) := fun z hz H e e' Q q => by
  obtain ⟨x, hx, hz⟩ := bindS hz
  cases hz
  exact h x hx H e e' Q q
theorem e_none : E (tC .non) σ G W (rO R) (some none) := e_c rfl
theorem e_get {m : Option (Option α)} (h : E te σ G W (rO R) m) : E te σ G W R (m >>= fun x => x) := fun z hz H e e' Q q => by
  obtain ⟨x, hx, hz⟩ := bindS hz
  subst hz
  exact h _ hx H e e' Q q
theorem eal_nil : EAL 0 tNil σ G W R (some []) := fun x hx => by
  cases hx
  exact ⟨rfl, fun H e e' Q q => q [] H G (Up.refl e) .nil⟩
theorem eal_cons {n : Nat} {tr : TA} {ma : Option α} {mr : Option (List α)} (h : E ta σ G W R ma) (hr : EAL n tr σ G W R mr) : EAL (n + 1) (tCons ta tr) σ G W R (ma >>= fun x => mr >>= fun xs => some (x :: xs)) := fun z hz => by
  obtain ⟨x, hx, hz⟩ := bindS hz
  obtain ⟨xs, hxs, hz⟩ := bindS hz
  cases hz
  refine ⟨congrArg (· + 1) (hr xs hxs).1, fun H e e' Q q => ?_⟩
  refine h x hx H e e' _ fun v H1 G1 u1 r1 => ?_
  refine ((hr.mono u1.gg (e'.trans u1.hh)) xs hxs).2 H1 u1.gh (Ex.refl _) _ fun vs H2 G2 u2 r2 => ?_
  exact q (v :: vs) H2 G2 (u1.trans u2) (.cons (R.mono u2.gg r1) r2)
theorem el_disp {n : Nat} {ta : TA} {m : Option (List α)} (h : EAL n ta σ G W R m) (hn : n < 100000 := by decide) : EL (tLst ta) σ G W R m := fun z hz H e e' Q q => by
  refine (h z hz).2 H e e' _ fun vs H1 G1 u1 r1 => ?_
  refine ⟨sz_of (by rw [r1.length, (h z hz).1]; exact Nat.le_of_lt hn), fun p hp => q p _ G1 (fresh_back u1.hh hp) (u1.trans (up_new u1.gh hp)) (wd_new u1.gh hp r1)⟩
theorem e_tupH {n : Nat} {ta : TA} {m : Option (List α)} (h : EAL n ta σ G W R m) (hn : n < 100000 := by decide) : E (tTup ta) σ G W (rT R) m := fun z hz H e e' Q q => by
  refine (h z hz).2 H e e' _ fun vs H1 G1 u1 r1 => ?_
  refine ⟨sz_of (by rw [r1.length, (h z hz).1]; exact Nat.le_of_lt hn), fun p hp => q _ _ _ (u1.trans (Up.lay u1.gh hp)) ⟨p, vs, rfl, Or.inl upd_same, Paired.mapP r1 fun _ _ => R.mono (Ex.new (fresh_back u1.gh hp))⟩⟩
/-! ### cuts, tests opened -/
theorem o_cut (M : L2.St → Hp → Prop) (h : tSeq tu (fun _ => M) D σ H) (k : ∀ σ' H', M σ' H' → tz D σ' H') : Evl.tCut tu tz D σ H := ⟨M, h, k⟩
theorem o_forR {ta : TA} (h : ta σ H fun vs H1 => ∃ j : Int, vs = [.int j] ∧ -(2 ^ 62) ≤ j ∧ j < 2 ^ 62 ∧ (fun (J : It) (H1 : Hp) => ∃ W : Nat → Nat → L2.St → Hp → Prop, (∃ m, W 0 m σ H1) ∧ ∀ i m σ H, W i m σ H →
      (J.stop i H ∧ tz D σ H) ∨ (J.go i H ∧ ∃ N : L2.St → Hp → Prop, (∀ σ' H', N σ' H' → ∃ m', m' < m ∧ W (i + 1) m' σ' H') ∧ ∀ x H', J.yld i H x H' → g x σ H' fun σ2 H2 => tu { D with nx := N, ct := N, bk := tz D } σ2 H2)) (Itr 0 j.toNat) H1) : tSeq (tFor (iRng1 ta) g tu) tz D σ H := h
/-- for i in range(n), n reckoned -/
theorem v_forR {n : Int} {xs : List Int} (w : Wo G0 H0 ls G H cs) (hx : rngM 0 n = some xs) (P : Nat → Hp → Hp → L2.St → Prop)
    (h0 : P 0 G H σ)
    (hs : ∀ i x σ' G' H', xs[i]? = some x → P i G' H' σ' → g (.int x) σ' H' fun σ2 H2 => tu { D with nx := fun σ' H' => ∃ G', P (i + 1) G' H' σ', ct := fun σ' H' => ∃ G', P (i + 1) G' H' σ', bk := tz D } σ2 H2)
    (hd : ∀ σ' G' H', P xs.length G' H' σ' → tz D σ' H') : ∃ j : Int, [V.int n] = [.int j] ∧ -(2 ^ 62) ≤ j ∧ j < 2 ^ 62 ∧ (fun (J : It) (H1 : Hp) => ∃ W : Nat → Nat → L2.St → Hp → Prop, (∃ m, W 0 m σ H1) ∧ ∀ i m σ H, W i m σ H →
      (J.stop i H ∧ tz D σ H) ∨ (J.go i H ∧ ∃ N : L2.St → Hp → Prop, (∀ σ' H', N σ' H' → ∃ m', m' < m ∧ W (i + 1) m' σ' H') ∧ ∀ x H', J.yld i H x H' → g x σ H' fun σ2 H2 => tu { D with nx := N, ct := N, bk := tz D } σ2 H2)) (Itr 0 j.toNat) H := by
  unfold rngM at hx
  split at hx
  · rename_i hb
    cases hx
    refine ⟨n, rfl, by omega, by omega, for_range (lo := 0) (n := n.toNat) (D := { D with nx := tz D }) (fun i σ' H' => ∃ G', P i G' H' σ') ⟨G, h0⟩ ?_ ?_⟩
    · rintro i σ' H' hi ⟨G', p⟩
      exact hs i _ σ' G' H' (rng_get (by omega)) p
    · rintro σ' H' ⟨G', p⟩
      refine hd σ' G' H' ?_
      rw [rng_len]
      have : (n - 0).toNat = n.toNat := by omega
      rw [this]; exact p
  · cases hx
end
end Sim

namespace Sim
open PySem L2 Evl
section
variable {K : PySem.W.Frag} {σ : L2.St} {G0 H0 G H G2 H2 W : Hp} {ls : List Addr} {cs : Cs} {l : Addr} {cp cp' : CP} {ta tb te tc : TE} {t u : TT} {α β γ ι κ : Type} {R : Rep α} {S : Rep β} {T : Rep γ} {A : AR ι} {D : Ends} {tu tv tz : TS} {g : TG}
/-- the cells in another order -/
theorem Wo.perm (w : Wo G0 H0 ls G H cs) (p : List Nat) (hp : p.Nodup) (hl : ∀ i ∈ p, i < cs.length) : Wo G0 H0 ls G H (p.filterMap fun i => cs[i]?) := by
  have hm : ∀ c ∈ p.filterMap (fun i => cs[i]?), c ∈ cs := fun c hc => by
    obtain ⟨i, _, e⟩ := List.mem_filterMap.mp hc
    exact List.mem_of_getElem? e
  refine ⟨⟨w.ex, fun c hc => w.w.at_ c (hm c hc), ?_⟩, w.f, fun c hc => w.lo c (hm c hc)⟩
  clear hm
  induction p with
  | nil => exact List.nodup_nil
  | cons i p ih =>
    have hi : i < cs.length := hl i (List.mem_cons_self ..)
    rw [List.filterMap_cons, List.getElem?_eq_getElem hi]
    refine List.nodup_cons.mpr ⟨fun h => ?_, ih (List.nodup_cons.mp hp).2 fun j hj => hl j (List.mem_cons_of_mem _ hj)⟩
    obtain ⟨c, hc, e⟩ := List.mem_map.mp h
    obtain ⟨j, hj, ej⟩ := List.mem_filterMap.mp hc
    have h1 : (cs.map (·.1))[i]? = some cs[i].1 := by rw [List.getElem?_map, List.getElem?_eq_getElem hi]; rfl
    have h2 : (cs.map (·.1))[j]? = some cs[i].1 := by rw [List.getElem?_map, ej]; exact congrArg some e
    have := nodup_ix w.w.nd h1 h2
    subst this
    exact (List.nodup_cons.mp hp).1 hj
theorem Wo.sub2 {i j : Nat} {l' : Addr} (w : Wo G0 H0 ls G H cs) (h : cs[i]? = some (l, cp)) (h' : cs[j]? = some (l', cp')) (ne : i ≠ j) : Wd G H [(l, cp), (l', cp')] := ⟨w.ex, fun c hc => by
  rcases List.mem_cons.mp hc with hc | hc
  · subst hc; exact w.w.at_ _ (List.mem_of_getElem? h)
  · rw [List.mem_singleton.mp hc]; exact w.w.at_ _ (List.mem_of_getElem? h'), by
  refine List.nodup_cons.mpr ⟨fun z => ?_, List.nodup_cons.mpr ⟨List.not_mem_nil, List.nodup_nil⟩⟩
  have e : l = l' := List.mem_singleton.mp z
  have h1 : (cs.map (·.1))[i]? = some l := by rw [List.getElem?_map, h]; rfl
  have h2 : (cs.map (·.1))[j]? = some l := by rw [List.getElem?_map, h', e]; rfl
  exact ne (nodup_ix w.w.nd h1 h2)⟩
theorem x_forT {xs : List α} {tl : TE} {m : Option (List α)} (w : Wo G0 H0 ls G H cs) (h : E tl σ G H (rT R) m) (hm : m = some xs) (P : Nat → Hp → Hp → L2.St → Prop) (hP : ∀ i G' H' σ', P i G' H' σ' → Ex G' H')
    (h0 : ∀ G' H', Wo G0 H0 ls G' H' cs → Ex G G' → P 0 G' H' σ)
    (hs : ∀ G1, Ex G G1 → ∀ i x v σ' G' H', xs[i]? = some x → Ex G1 G' → P i G' H' σ' → R.r G' v x → g v σ' H' fun σ2 H2 => tu { D with nx := fun σ' H' => ∃ G', Ex G1 G' ∧ P (i + 1) G' H' σ', ct := fun σ' H' => ∃ G', Ex G1 G' ∧ P (i + 1) G' H' σ', bk := tz D } σ2 H2)
    (hd : ∀ σ' G' H', Ex G G' → P xs.length G' H' σ' → tz D σ' H') : tSeq (tFor (iTup K tl) g tu) tz D σ H :=
  h xs hm H w.ex (Ex.refl _) _ fun v H1 G1 u r => by
    obtain ⟨a, vs, rfl, h2, h3⟩ := r
    refine ⟨a, rfl, ⟨vs, Or.inl (rd_up u.gh h2)⟩, for_tup (K := K) (a := a) (xs := vs) (fun i σ' H' => ∃ G', Ex G1 G' ∧ P i G' H' σ') ⟨G1, Ex.refl _, h0 G1 H1 (w.up u) u.gg⟩ ?_ ?_ ?_⟩
    · rintro i σ' H' _ ⟨G', e, p⟩
      exact Or.inl (rd_up (hP _ _ _ _ p) (rd_up e h2))
    · rintro i y σ' H' hy ⟨G', e, p⟩
      obtain ⟨x, hx, r⟩ := pr_get' h3 hy
      exact hs G1 u.gg i x y σ' G' H' hx e p (R.mono e r)
    · rintro σ' H' ⟨G', e, p⟩
      rw [h3.length] at p
      exact hd σ' G' H' (u.gg.trans e) p
end
/-! ### the text's facts -/
section
variable {fa : List He.Fa} {fn : List He.DefD} {K : PySem.W.Frag} {mg : Str → Option Value} {P : Program} {w : World} {base : Heap}
theorem Tx.def_ (T : Tx fa fn K mg) (i : Nat) {d : He.DefD} (h : fn[i]? = some d) : ∃ fd, FunD K d.name d.qual d.params d.body d.scope (d.dvs K) (d.kws K) (He.fAd K d.at_) fd := T.c.def_ i h
/-- a def by its name, with its promise -/
def Fk (P : Program) (w : World) (K : PySem.W.Frag) (mg : Str → Option Value) (base : Heap) (CX : CXT) (k : Nat) (x : Str) (ps : List Str) (sp : Sp) : Prop :=
  ∃ fd, FnOk P w K mg base CX k (He.ga K x) fd ps sp ∧ Binds K fd ps [] ∧ PySem.W.keepIn K (.ref (He.ga K x)) = true ∧ mg x = some (.ref (He.ga K x))
theorem fk_mk {CX : CXT} {k : Nat} {x qual : Str} {ps : List Str} {sp : Sp} {fd : FuncData} {params : Arguments} {body : List Stmt} {scope : Scope} (T : Tx fa fn K mg) (g : mg x = some (.ref (He.ga K x))) (F : FunD K x qual params body scope [] [] (He.ga K x) fd)
    (hb : ∀ (kV doc pm : Value) (an : Option Addr) (cdv ct : Value) (us : List Value), us.length = ps.length → bindArgs (PySem.W.fnOf x qual params body scope .none kV doc pm an cdv ct) ⟨us, []⟩ = pure (ps.zip us))
    (h : FnOk P w K mg base CX k (He.ga K x) fd ps sp) : Fk P w K mg base CX k x ps sp := ⟨fd, h, F.bindsN hb, F.kp, g⟩
end
end Sim

namespace Sim
open PySem L2 Evl
/-! ### the hook: facts, defs, and further Bools -/
structure SaysE (fa : List He.Fa) (fn : List He.DefD) (ex : List (PySem.W.Frag → Bool)) (K : PySem.W.Frag) : Prop where
  d : He.SaysD fa fn K
  x : (ex.all fun e => e K) = true
theorem TxE.mo {fa : List He.Fa} {fn : List He.DefD} {ex : List (PySem.W.Frag → Bool)} {K : PySem.W.Frag} {mg : Str → Option Value} (T : TxE fa fn ex K mg) (i : Nat) {e : PySem.W.Frag → Bool} (h : ex[i]? = some e) : e K = true := List.all_eq_true.mp T.x e (List.mem_of_getElem? h)
theorem TxE.con {fa : List He.Fa} {fn : List He.DefD} {ex : List (PySem.W.Frag → Bool)} {K : PySem.W.Frag} {mg : Str → Option Value} (T : TxE fa fn ex K mg) (i : Nat) {C f : Str} {v : He.Dv} (h : ex[i]? = some fun K => He.conB K C f v) (hc : PySem.W.copiedNames.contains f = false := by decide) : ∃ u, Con K (He.ga K C) f (v.v K) u := He.conB_ok (T.mo i h) hc
/-! ### objects -/
def pd {α : Type} (R : Rep α) (x : α) : Pd := ⟨fun H v => R.r H v x, fun e h => R.mono e h⟩
theorem look_at {ns : List Str} : ∀ {fs : List (Str × V)} {f : Str} {i : Nat} {v : V}, fs.map (·.1) = ns → (ns.findIdx? (fun x => x == f)) = some i → (fs.map (·.2))[i]? = some v → fs.lookup f = some v := by
  intro fs
  induction fs generalizing ns with
  | nil => intro f i v h1 h2 h3; simp at h3
  | cons q fs ih =>
    intro f i v h1 h2 h3
    obtain ⟨n, w⟩ := q
    subst h1
    rw [List.map_cons, List.findIdx?_cons] at h2
    rw [List.lookup_cons]
    by_cases hn : (n == f) = true
    · rw [if_pos hn] at h2
      cases h2
      have hf : (f == n) = true := by rw [beq_iff_eq] at hn ⊢; exact hn.symm
      rw [hf]
      simpa using h3
    · rw [if_neg hn] at h2
      obtain ⟨j, hj, e⟩ := Option.map_eq_some_iff.mp h2
      subst e
      have hf : (f == n) = false := by
        cases q : (f == n) with
        | false => rfl
        | true => rw [beq_iff_eq] at q; exact absurd (by rw [beq_iff_eq]; exact q.symm) hn
      rw [hf]
      exact ih rfl hj (by simpa using h3)
theorem putF_new {f : Str} {v : V} : ∀ {fs : List (Str × V)}, (fs.map (·.1)).contains f = false → putF f v fs = fs ++ [(f, v)]
  | [], _ => rfl
  | (n, w) :: fs, h => by
    rw [List.map_cons, List.contains_cons, Bool.or_eq_false_iff] at h
    have hn : ¬ (n = f) := fun e => by subst e; simp at h
    unfold putF
    rw [if_neg hn, putF_new h.2]; rfl
section
variable {K : PySem.W.Frag} {σ : L2.St} {G0 H0 G H G2 H2 W : Hp} {ls : List Addr} {cs : Cs} {l C : Addr} {cp cp' : CP} {ta tb te tc to : TE} {t u : TT} {α β γ ι κ : Type} {R : Rep α} {S : Rep β} {T : Rep γ} {A : AR ι} {D : Ends} {tu tv tz : TS} {g : TG} {ns : List Str} {fl : α → List Pd}
/-- o.f -/
theorem e_fld {m : Option α} {f : Str} (i : Nat) (p : α → β) (h : E to σ G W (rObj C ns fl) m) (hc : Cls K C) (hn : NoAttr K C f) (hi : ns.findIdx? (fun x => x == f) = some i) (hp : ∀ x, (fl x)[i]? = some (pd S (p x))) : E (tFld K to f) σ G W S (m >>= fun x => some (p x)) := fun z hz H e e' Q q => by
  obtain ⟨x, hx, hz⟩ := bindS hz
  cases hz
  refine h x hx H e e' _ fun v H1 G1 u r => ?_
  obtain ⟨a, dx, fs, rfl, h2, h3⟩ := r
  obtain ⟨w, hw, r2⟩ := pr_get h3.2 (hp x)
  exact ⟨a, C, dx, fs, w, rfl, u.gh a _ h2, hc, hn, look_at h3.1 hi hw, q w H1 G1 u r2⟩
/-- o.m(..) -/
theorem e_meth {m : Option α} {mi : Option ι} {me : Str} {f : α × ι → Option γ} {ta : TA} {X : XK} (h : E to σ G W (rObj C ns fl) m) (ha : EA ta σ G W A mi) (hi : ns.contains me = false) : E (tMeth C me (PF (aC (rObj C ns fl) A) T f) [] X to ta) σ G W T (m >>= fun o => mi >>= fun i => f (o, i)) := fun z hz H e e' Q q => by
  obtain ⟨x, hx, hz⟩ := bindS hz
  obtain ⟨y, hy, hz⟩ := bindS hz
  refine h x hx H e e' _ fun v H1 G1 u r => ?_
  obtain ⟨a, dx, fs, rfl, h2, h3⟩ := r
  refine ⟨a, dx, fs, rfl, u.gh a _ h2, look_no h3.1 hi, ?_⟩
  refine (ha.mono u.gg (e'.trans u.hh)) y hy H1 u.gh (Ex.refl _) _ fun vs H3 G3 u3 r3 => ?_
  rw [List.append_nil]
  exact ⟨G3, (x, y), z, u3.gh, ⟨.ref a, vs, rfl, ⟨a, dx, fs, rfl, u3.gg a _ h2, h3.mono u3.gg⟩, r3⟩, hz, fun v H4 G4 u4 r4 => q v H4 G4 ((u.trans u3).trans u4) r4⟩
/-- the promise of an __init__: fields of the new object -/
def PI {ι α : Type} (C : Addr) (A : AR ι) (ns : List Str) (fl : α → List Pd) (f : ι → Option α) : Sp := fun vs H Q _ => ∃ G x ws i o, vs = .ref x :: ws ∧ Wd G H [(x, cI C [] [])] ∧ A.r G ws i ∧ f i = some o ∧
  ∀ H2 G2, Fr G H G2 H2 [x] → Wd G2 H2 [(x, cI C ns (fl o))] → Q .non H2
theorem ob_freeze {p : Addr} {ps : List Pd} (w : Wd G H [(p, cI C ns ps)]) : ∃ G2, Ex G G2 ∧ Ex G2 H ∧ (∀ a, a ≠ p → G a = none → G2 a = none) ∧ ∃ dx fs, G2 p = some (.ins C dx fs) ∧ Fl ns ps G2 fs := by
  obtain ⟨h1, o, h2, dx, fs, rfl, h3⟩ := w.head
  refine ⟨upd G p (.ins C dx fs), Ex.new h1, fun a u' e => ?_, fun a ne h => by rw [upd_ne ne]; exact h, dx, fs, upd_same, h3.mono (Ex.new h1)⟩
  by_cases q : a = p
  · subst q; rw [upd_same] at e; cases e; exact h2
  · rw [upd_ne q] at e; exact w.ex a u' e
theorem new_ins {x dx : Addr} (e : Ex G H) (nx : H x = none) (ndx : H dx = none) (ne : dx ≠ x) : Wd G (upd (upd H dx (.own x)) x (.ins C dx [])) [(x, cI C [] [])] := by
  have nx' : (upd H dx (.own x)) x = none := by rw [upd_ne ne.symm]; exact nx
  have e1 : Ex G (upd H dx (.own x)) := e.trans (Ex.new ndx)
  exact (Wd.nil e1).new nx' ⟨dx, [], rfl, rfl, .nil⟩
/-- C(..) -/
theorem e_make {f : ι → Option α} {ta : TA} {mi : Option ι} {X : XK} (ha : EA ta σ G W A mi) : E (tMake C (PI C A ns fl f) [] X ta) σ G W (rObj C ns fl) (mi >>= f) := fun z hz H e e' Q q => by
  obtain ⟨i, hi, hz⟩ := bindS hz
  refine ha i hi H e e' _ fun vs H1 G1 u1 r1 => ?_
  intro x dx nx ndx ne
  rw [List.append_nil]
  have w1 : Wd G1 (upd (upd H1 dx (.own x)) x (.ins C dx [])) [(x, cI C [] [])] := new_ins u1.gh nx ndx ne
  refine ⟨G1, x, vs, i, z, rfl, w1, r1, hz, fun H2 G2 fr w2 => ⟨rfl, ?_⟩⟩
  obtain ⟨G3, k1, k2, k3, dx', fs, k4, k5⟩ := ob_freeze w2
  have hh : Ex H1 H2 := fun a o h => by
    have na : a ≠ x := ne_of_none h nx
    have nd : a ≠ dx := ne_of_none h ndx
    exact fr.fr a o (by rw [upd_ne na, upd_ne nd]; exact h) fun z => na (List.mem_singleton.mp z)
  have up : Up G1 H1 G3 H2 := ⟨fr.gg.trans k1, k2, hh, fun a h1 h2 => by
    have na : a ≠ x := fun z => by subst z; exact h1 nx
    have nd : a ≠ dx := fun z => by subst z; exact h1 ndx
    exact k3 a na (fr.nw a (by rw [upd_ne na, upd_ne nd]; exact h1) h2)⟩
  exact q _ H2 G3 (u1.trans up) ⟨x, dx', fs, rfl, k4, k5⟩
/-- self.f = e, a new field -/
theorem x_fldN {i j : Nat} {f : Str} {m : Option β} {x : β} {ps : List Pd} (w : Wo G0 H0 ls G H cs) (hc : cs[j]? = some (l, cI C ns ps)) (hi : σ[i]? = some (some (.ref l))) (h : E te σ G H S m) (hm : m = some x) (hC : Cls K C) (hn : NoAttr K C f) (hz : ns.contains f = false) (hs : ns.length < 1000)
    (k : ∀ H2 G2, Wo G0 H0 ls G2 H2 (cs.set j (l, cI C (ns ++ [f]) (ps ++ [pd S x]))) → Ex G G2 → tz D σ H2) : tSeq (sFld K (tVar i) te f) tz D σ H :=
  h x hm H w.ex (Ex.refl _) (fun y H1 => tVar i σ H1 fun x H2 => ∃ a C dx fs, x = .ref a ∧ H2 a = some (.ins C dx fs) ∧ Cls K C ∧ NoAttr K C f ∧ fs.length < 1000 ∧ tz D σ (upd H2 a (.ins C dx (putF f y fs)))) fun v H3 G3 u r => by
    have w3 := w.up u
    obtain ⟨_, o3, k2, dx, fs, rfl, k3⟩ := w3.w.getAt hc
    refine ⟨.ref l, hi, l, C, dx, fs, rfl, k2, hC, hn, by rw [← List.length_map (f := (·.1)), k3.1]; exact hs, ?_⟩
    rw [putF_new (by rw [k3.1]; exact hz)]
    refine k _ _ (w3.writeAt hc ⟨dx, _, rfl, ?_, ?_⟩) u.gg
    · rw [List.map_append, k3.1]; rfl
    · rw [List.map_append]; exact pr_app k3.2 (.cons r .nil)
theorem x_call {m : Option α} {x : α} (w : Wo G0 H0 ls G H cs) (h : E te σ G H R m) (hm : m = some x) (k : ∀ H2, Wo G0 H0 ls G H2 cs → tz D σ H2) : tSeq (tDrop te) tz D σ H :=
  h x hm H w.ex (Ex.refl _) (fun _ H1 => tz D σ H1) fun v H2 G2 u r => k H2 (w.sc u.hh)
/-! ### isinstance, the kind known -/
def KTy (R : Rep α) (n : String) : Prop := ∀ {K : PySem.W.Frag} {H : Hp} {v : V} {x : α}, R.r H v x → TyX K H v (.type n)
theorem ktI : KTy rI "int" := fun h => by rw [show _ = V.int _ from h]; exact .base (.int _)
theorem ktP : KTy (rP R S) "tuple" := fun ⟨a, _, _, h, h2, _⟩ => by rw [h]; exact .base (.tup h2)
theorem e_isi {m : Option α} {n c : String} {b : Bool} (h : E te σ G W R m) (hk : KTy R n) (hb : kitB n c = some b) : E (tCB (rIsi K) (tCons te (tCons (tC (.ty c)) tNil))) σ G W rB (m >>= fun _ => some b) := fun z hz H e e' Q q => by
  obtain ⟨x, hx, hz⟩ := bindS hz
  cases hz
  refine h x hx H e e' _ fun v H1 G1 u r => ?_
  exact ⟨v, .ty c, .type n, .type c, b, rfl, .ty c, hk (R.mono u.gh r), kit_ty hb, q _ H1 G1 u rfl⟩
/-! ### == of data -/
def rEqP (K : PySem.W.Frag) : R2 := fun x y H Q => ∃ d e, Dp K H x d ∧ Dp K H y e ∧ (d.plain = true ∧ d.depth ≤ 64) ∧ (e.plain = true ∧ e.depth ≤ 64) ∧ Q (.bl (PyData.eqv d e)) H
def rNeP (K : PySem.W.Frag) : R2 := fun x y H Q => ∃ d e, Dp K H x d ∧ Dp K H y e ∧ (d.plain = true ∧ d.depth ≤ 64) ∧ (e.plain = true ∧ e.depth ≤ 64) ∧ Q (.bl (!PyData.eqv d e)) H
theorem op_eqP {X : Cx} (hu : X.A.units + 64 < cLine) : OpR X (compareOp .Eq) (rEqP X.K) := by
  intro pins s σ H x y v u Q I rx ry h
  obtain ⟨d, e, hd, he, sd, se, q⟩ := h
  obtain ⟨as, r1⟩ := Dp.reads I d x v hd rx
  obtain ⟨bs, r2⟩ := Dp.reads I e y u he ry
  exact SeqAt.eq_plain r1 r2 sd.1 se.1 (by have := sd.2; omega) ⟨.bl _, H, I, rfl, q⟩
theorem op_neP {X : Cx} (hu : X.A.units + 64 < cLine) : OpR X (compareOp .NotEq) (rNeP X.K) := by
  intro pins s σ H x y v u Q I rx ry h
  obtain ⟨d, e, hd, he, sd, se, q⟩ := h
  obtain ⟨as, r1⟩ := Dp.reads I d x v hd rx
  obtain ⟨bs, r2⟩ := Dp.reads I e y u he ry
  exact SeqAt.ne_plain r1 r2 sd.1 se.1 (by have := sd.2; omega) ⟨.bl _, H, I, rfl, q⟩
structure Dt (R : Rep α) (d : α → PyData) (n : Nat) : Prop where
  dp : ∀ {K : PySem.W.Frag} {H : Hp} {v : V} {x : α}, R.r H v x → Dp K H v (d x)
  lay : ∀ x, (d x).plain = true
  dep : ∀ x, (d x).depth ≤ n
  eq : ∀ x y, PyData.eqv (d x) (d y) = true ↔ x = y
theorem dtI : Dt rI PyData.int 0 := ⟨fun h => by rw [show _ = V.int _ from h]; exact .int _, fun _ => rfl, fun _ => Nat.le_refl _, fun x y => by simp [PyData.eqv]⟩
theorem eqvD {d : α → PyData} {n : Nat} [DecidableEq α] (h : Dt R d n) (x y : α) : PyData.eqv (d x) (d y) = decide (x = y) := by
  by_cases e : x = y
  · rw [decide_eq_true e]; exact (h.eq x y).mpr e
  · rw [decide_eq_false e]
    cases q : PyData.eqv (d x) (d y) with
    | false => rfl
    | true => exact absurd ((h.eq x y).mp q) e
theorem rr_eqD {d : α → PyData} {n : Nat} [DecidableEq α] (h : Dt R d n) (hn : n ≤ 64) : RR (rEqP K) R R rB (fun x y => some (decide (x = y))) := fun v w x y z H G hv hw hz e Q q => by
  cases hz
  exact ⟨d x, d y, h.dp (R.mono e hv), h.dp (R.mono e hw), ⟨h.lay x, Nat.le_trans (h.dep x) hn⟩, ⟨h.lay y, Nat.le_trans (h.dep y) hn⟩, q _ H G (Up.refl e) (congrArg V.bl (eqvD h x y))⟩
theorem rr_neD {d : α → PyData} {n : Nat} [DecidableEq α] (h : Dt R d n) (hn : n ≤ 64) : RR (rNeP K) R R rB (fun x y => some (!decide (x = y))) := fun v w x y z H G hv hw hz e Q q => by
  cases hz
  exact ⟨d x, d y, h.dp (R.mono e hv), h.dp (R.mono e hw), ⟨h.lay x, Nat.le_trans (h.dep x) hn⟩, ⟨h.lay y, Nat.le_trans (h.dep y) hn⟩, q _ H G (Up.refl e) (congrArg (fun b => V.bl (!b)) (eqvD h x y))⟩
end
end Sim

namespace Sim
open PySem L2 Evl
section
variable {K : PySem.W.Frag} {σ : L2.St} {G0 H0 G H G2 H2 W : Hp} {ls : List Addr} {cs : Cs} {l C : Addr} {cp cp' : CP} {ta tb te tc to : TE} {t u : TT} {α β γ ι κ : Type} {R : Rep α} {S : Rep β} {T : Rep γ} {A : AR ι} {D : Ends} {tu tv tz : TS} {g : TG} {ns : List Str} {fl : α → List Pd}
/-! ### a list lent to a def that only reads it -/
theorem Wo.lent {i : Nat} {B : Rep κ} {ys : List κ} (w : Wo G0 H0 ls G H cs) (h : cs[i]? = some (l, cL B ys)) : Lent G H l B ys := by
  obtain ⟨h1, o, h2, vs, rfl, h3⟩ := w.w.getAt h
  exact ⟨h1, vs, h2, h3⟩
end
/-! ### a method by its name, with its promise -/
def Fm (P : Program) (w : World) (K : PySem.W.Frag) (mg : Str → Option Value) (base : Heap) (CX : CXT) (k : Nat) (c m : Str) (ps : List Str) (sp : Sp) : Prop :=
  ∃ fd, FnOk P w K mg base CX k (He.ma K (He.ga K c) m) fd ps sp ∧ Binds K fd ps []
theorem fm_mk {K : PySem.W.Frag} {mg : Str → Option Value} {P : Program} {w : World} {base : Heap} {CX : CXT} {k : Nat} {c m x qual : Str} {ps : List Str} {sp : Sp} {fd : FuncData} {params : Arguments} {body : List Stmt} {scope : Scope} (F : FunD K x qual params body scope [] [] (He.ma K (He.ga K c) m) fd)
    (hb : ∀ (kV doc pm : Value) (an : Option Addr) (cdv ct : Value) (us : List Value), us.length = ps.length → bindArgs (PySem.W.fnOf x qual params body scope .none kV doc pm an cdv ct) ⟨us, []⟩ = pure (ps.zip us))
    (h : FnOk P w K mg base CX k (He.ma K (He.ga K c) m) fd ps sp) : Fm P w K mg base CX k c m ps sp := ⟨fd, h, F.bindsN hb⟩
/-! ### data that is compared -/
section
variable {α β : Type} {R : Rep α} {S : Rep β}
theorem pr_dp {d : α → PyData} {n : Nat} (h : Dt R d n) {K : PySem.W.Frag} {H : Hp} : ∀ {vs : List V} {xs : List α}, Paired (R.r H) vs xs → DpAll K H vs (xs.map d)
  | _, _, .nil => .nil
  | _, _, .cons r t => .cons (h.dp r) (pr_dp h t)
theorem layAll {d : α → PyData} {n : Nat} (h : Dt R d n) : ∀ xs : List α, PyData.plainAll (xs.map d) = true
  | [] => rfl
  | x :: xs => Bool.and_eq_true_iff.mpr ⟨h.lay x, layAll h xs⟩
theorem depAll {d : α → PyData} {n : Nat} (h : Dt R d n) : ∀ xs : List α, PyData.depthAll (xs.map d) ≤ n
  | [] => Nat.zero_le _
  | x :: xs => Nat.max_le.mpr ⟨h.dep x, depAll h xs⟩
theorem eqAll {d : α → PyData} {n : Nat} (h : Dt R d n) : ∀ xs ys : List α, PyData.eqvAll (xs.map d) (ys.map d) = true ↔ xs = ys
  | [], [] => by simp [PyData.eqvAll]
  | x :: xs, y :: ys => by
    simp only [List.map_cons, PyData.eqvAll, Bool.and_eq_true, h.eq, eqAll h xs ys, List.cons.injEq]
  | [], y :: ys => by simp [PyData.eqvAll]
  | x :: xs, [] => by simp [PyData.eqvAll]
theorem dtL {d : α → PyData} {n : Nat} (h : Dt R d n) : Dt (rL R) (fun xs => PyData.list (xs.map d)) (n + 1) :=
  ⟨fun ⟨a, vs, e, h2, h3⟩ => by rw [e]; exact .lst (Or.inl (Or.inl h2)) (pr_dp h h3), fun xs => layAll h xs, fun xs => Nat.succ_le_succ (depAll h xs), fun xs ys => by simp only [PyData.eqv]; exact eqAll h xs ys⟩
theorem dtP {d : α → PyData} {f : β → PyData} {n k : Nat} (h : Dt R d n) (h' : Dt S f k) : Dt (rP R S) (fun p => PyData.tuple [d p.1, f p.2]) (max n k + 1) :=
  ⟨fun ⟨a, x, y, e, h2, h3, h4⟩ => by rw [e]; exact .tup (Or.inl (Or.inl h2)) (.cons (h.dp h3) (.cons (h'.dp h4) .nil)), fun p => by
    show (PyData.plain _ && (PyData.plain _ && true)) = true
    rw [h.lay, h'.lay]; rfl, fun p => by
    show max (PyData.depth _) (max (PyData.depth _) 0) + 1 ≤ _
    have := h.dep p.1; have := h'.dep p.2; omega, fun p q => by
    simp only [PyData.eqv, PyData.eqvAll, Bool.and_eq_true, h.eq, h'.eq, and_true]
    exact ⟨fun ⟨a, b⟩ => Prod.ext a b, fun e => by subst e; exact ⟨rfl, rfl⟩⟩⟩
end
end Sim
namespace Sim
open PySem L2 Evl
section
variable {K : PySem.W.Frag} {σ : L2.St} {G0 H0 G H G2 H2 W : Hp} {ls : List Addr} {cs : Cs} {l C : Addr} {te : TE} {α β : Type} {R : Rep α} {S : Rep β} {ns : List Str}
/-- the script -/
def rScr (K : PySem.W.Frag) : Rep (List Int) := ⟨fun H v xs => ∃ a, v = .ref a ∧ SqL K H a (xs.map V.int), fun e ⟨a, h1, h2⟩ => ⟨a, h1, ex_l e h2⟩⟩
theorem rr_ixScr : RR (rIxL K) (rScr K) rI rI (fun xs i => atI xs i) := fun v w xs i z H G hv hw hz e Q q => by
  obtain ⟨a, rfl, h2⟩ := hv
  cases hw
  have hz' : (ixN xs.length i).bind (fun j => xs[j]?) = some z := hz
  cases hj : ixN xs.length i with
  | none => rw [hj] at hz'; cases hz'
  | some j =>
    rw [hj] at hz'
    have hz2 : xs[j]? = some z := hz'
    refine ⟨a, _, i, .int z, rfl, rfl, ex_l e h2, ?_, q _ H G (Up.refl e) rfl⟩
    show (ixN (xs.map V.int).length i).bind (fun j => (xs.map V.int)[j]?) = some (.int z)
    rw [List.length_map, hj]
    show (xs.map V.int)[j]? = _
    rw [List.getElem?_map, hz2]; rfl
theorem rc_lenScr : RC (rLn K) (aC (rScr K) aN) rI (fun i => some (i.1.length : Int)) := fun vs i z H G hv hz e Q q => by
  cases hz
  obtain ⟨v, ws, rfl, ⟨a, rfl, h2⟩, rfl⟩ := hv
  refine ⟨a, _, rfl, Or.inl (ex_l e h2), q _ H G (Up.refl e) ?_⟩
  show V.int _ = V.int _
  rw [List.length_map]
def powM (a b : Int) : Option Int := if 0 ≤ b ∧ b ≤ 1000000 ∧ a.natAbs < 2 ^ 64 then some (a ^ b.toNat) else none
theorem rr_pow : RR (L2.rI CPow fun i j => .int (i ^ j.toNat)) rI rI rI powM := rr_I fun i j z h => by
  unfold powM at h
  split at h
  · rename_i hc; cases h; exact ⟨hc, fun _ => rfl⟩
  · cases h
/-- self.NAME while self is being made -/
theorem e_conC {G' : Hp} {i j : Nat} {f : Str} {v : V} {uu : Value} {x : β} {ps : List Pd} (w : Wo G0 H0 ls G H cs) (hc : cs[j]? = some (l, cI C ns ps)) (hi : σ[i]? = some (some (.ref l))) (hC : Cls K C) (hk : Con K C f v uu) (hz : ns.contains f = false) (hv : ∀ H, S.r H v x) : E (tCon K (tVar i) f) σ G' H S (some x) := fun y hy H' e e' Q q => by
  cases hy
  obtain ⟨_, o, k2, dx, fs, rfl, k3⟩ := w.w.getAt hc
  exact ⟨.ref l, hi, l, C, dx, fs, v, uu, rfl, e' _ _ k2, hC, hk, look_no k3.1 hz, q _ H' G' (Up.refl e) (hv G')⟩
theorem el_listRg {m : Option Int} (h : E te σ G W rI m) : EL (tLstRg (tRg1 te)) σ G W rI (m >>= fun n => rngM 0 n) := fun z hz H e e' Q q => by
  obtain ⟨n, hn, hz⟩ := bindS hz
  refine h n hn H e e' _ fun v H1 G1 u r => ?_
  unfold rngM at hz
  split at hz
  · rename_i hb
    cases hz
    refine ⟨n, r, ⟨by omega, by omega, by omega, by omega, by omega⟩, fun p hp => q p _ G1 (fresh_back u.hh hp) (u.trans (up_new u.gh hp)) (wd_new u.gh hp ?_)⟩
    have : rgV 0 n = (rng 0 n).map V.int := by unfold rgV rng; rw [List.map_map]; rfl
    rw [this]
    exact ints_pr _
  · cases hz
end
end Sim

set_option maxHeartbeats 4000000
/-! own exceptions: an __init__ whose first statement is super().__init__(text) -/
namespace Sim
open PySem PySem.Spec PyProof.Rows L2 PySem.W PySem.Calls NdefX
section
variable {CX : CXT} {P : Program} {w : World} {K : PySem.W.Frag} {mg : Str → Option Value} {base : Heap} {N ps : List Str} {F : NF} {C f : Addr} {fd : FuncData} {k : Nat} {sp : Sp} {t : Str} {rest : List Stmt} {p0 p1 p2 p3 p4 pc : Pos} {j : Nat} {pl : Sem Bool}
end
end Sim

/-! own exceptions: what the top's end says of them -/
namespace Sim
open PySem PySem.Spec PyProof.Rows L2 PySem.W PySem.Calls NdefX
end Sim

/-! own exceptions raised: their mirrors and promises -/
namespace Sim
open PySem PySem.Spec PyProof.Rows L2 Evl NdefX
section
variable {K : PySem.W.Frag} {σ : L2.St} {G H G0 H0 : Hp} {ls : List Addr} {cs : Cs} {ta : TA} {ι : Type} {A : AR ι}
end
end Sim

/-! the __init__ of an own exception, walked -/
namespace Sim
open PySem PySem.Spec PyProof.Rows L2 Evl NdefX
section
variable {K : PySem.W.Frag} {σ : L2.St} {H : Hp} {a C dx : Addr} {D : Ends}
end
section
variable {CX : CXT} {P : Program} {w : World} {K : PySem.W.Frag} {mg : Str → Option Value} {base : Heap} {N ps : List Str} {F : NF} {C f : Addr} {fd : FuncData} {k : Nat} {t : Str} {rest : List Stmt} {p0 p1 p2 p3 p4 pc : Pos} {j : Nat} {pl : Sem Bool} {names : List Str} {fi : List (Str × Nat)}
end
end Sim

/-! calls that may raise, at the caller's slots; try -/
namespace L2
open PySem PySem.Spec PyProof.Rows
section
variable {X : Cx} {CX : CXT} {k : Nat} {f C : Addr} {fd : FuncData} {ps : List Str} {sp : Sp} {E : St → XK} {x m : Str} {p pos apos : Pos} {e o : Expr} {es : List Expr} {ta : TE} {t : TA}
end
end L2
namespace Sim
open PySem PySem.Spec PyProof.Rows L2 Evl
section
variable {K : PySem.W.Frag} {σ : L2.St} {G H W G0 H0 : Hp} {ls : List Addr} {cs : Cs} {ta : TA} {to te : TE} {ι α β γ : Type} {A : AR ι} {R : Rep α} {S : Rep β} {T : Rep γ} {t u : TS} {D : Ends}
end
end Sim

/-! try with several clauses, each with or without a name -/
namespace L2
open PySem PySem.Spec PyProof.Rows
section
variable {X : Cx} {pins : List (Addr × Obj)} {σ : L2.St} {H : Hp} {cls : Value} {d : Option Addr} {a : Addr} {B : Heap} {sI s : Shared}
end
section
variable {X : Cx} {body : List Stmt} {h₀ : ExceptHandler} {hds : List ExceptHandler} {l : List Cla} {pos : Pos} {tb : WX → TS} {Wout : WX}
end
end L2

/-! the hook with own exceptions -/
namespace Sim
open PySem PySem.Spec PyProof.Rows L2 Evl
abbrev prG (K : PySem.W.Frag) (C f : Str) : Addr := wrG K "property" C f
/-- a static method m of the class C -/
structure StatOf (K : PySem.W.Frag) (C : Addr) (m : Str) (p g : Addr) : Prop where
  ga : PySem.W.specialIn K (.ref C) "__getattribute__" = some (some (.builtin "type.__getattribute__"))
  ty : PySem.W.typeIn K (.ref C) = some (.type "type")
  rd : PySem.W.readsIn K C (.type "type") = true
  at_ : PySem.W.findCls K (.ref C) (.type "type") m = some (.get (.builtin "staticmethod.__get__") (.ref p) .none (.ref C))
  rc : ∃ rest, PySem.W.recIn K p "staticmethod" = some (.ref g :: rest)
  hd : PySem.W.handedIn (.ref g) = true
theorem statB_ok {C f : Str} {K : PySem.W.Frag} (h : statB C f K = true) : StatOf K (He.ga K C) f (prP K C f) (wrG K "staticmethod" C f) := by
  obtain ⟨h1, h⟩ := He.ba h
  obtain ⟨h2, h⟩ := He.ba h
  obtain ⟨h3, h⟩ := He.ba h
  obtain ⟨h4, h5⟩ := He.ba h
  have h4' : PySem.W.findCls K (.ref (He.ga K C)) (.type "type") f = some (.get (.builtin "staticmethod.__get__") (.ref (prP K C f)) .none (.ref (He.ga K C))) := by
    split at h4
    · rename_i n p D e
      simp only [Bool.and_eq_true, beq_iff_eq] at h4
      obtain ⟨rfl, rfl, rfl⟩ := h4
      exact e
    · cases h4
  unfold wrG
  cases e : PySem.W.recIn K (prP K C f) "staticmethod" with
  | none => rw [e] at h5; cases h5
  | some l =>
    rw [e] at h5
    cases l with
    | nil => cases h5
    | cons v r =>
      cases v with
      | ref g => exact ⟨of_decide_eq_true h1, of_decide_eq_true h2, h3, h4', ⟨r, e⟩, h5⟩
      | _ => cases h5
theorem propB_ok {C f : Str} {K : PySem.W.Frag} (h : propB C f K = true) : PropOf K (He.ga K C) f (prP K C f) (prG K C f) := by
  obtain ⟨h1, h⟩ := He.ba h
  obtain ⟨h2, h⟩ := He.ba h
  obtain ⟨h3, h4⟩ := He.ba h
  refine ⟨of_decide_eq_true h1, of_decide_eq_true h2, of_decide_eq_true h3, ?_⟩
  unfold prG wrG
  cases e : PySem.W.recIn K (prP K C f) "property" with
  | none => rw [e] at h4; cases h4
  | some l =>
    rw [e] at h4
    cases l with
    | nil => cases h4
    | cons v r =>
      cases v with
      | ref g => exact ⟨r, rfl⟩
      | _ => cases h4
theorem GeD.funD {K : PySem.W.Frag} {d : GeD} (e : fnG K d.kind d.cls d.prop = d.val) (c : d.ok K = true) : ∃ fd, FunD K d.prop d.qual d.params d.body d.scope [] [] (wrG K d.kind d.cls d.prop) fd := by
  obtain ⟨_, c⟩ := He.ba c
  obtain ⟨kp, c2⟩ := He.ba c
  unfold fnG at e
  cases q : K.lookup (wrG K d.kind d.cls d.prop) with
  | none => rw [q] at c2; cases c2
  | some o =>
    obtain ⟨oc, od, dt, osl⟩ := o
    rw [q] at c2 e
    cases dt with
    | func fd =>
      obtain ⟨n1, n2, n3, n4, n5, n6, n7, n8, n9, n10, n11, n12, n13, n14, n15⟩ := fd
      have e2 : (some (n1, n2, n3, n4, n5, n6, n7, n15) : He.FnW) = (some (d.prop, d.qual, d.params, .stmts d.body, d.scope, mainGlobals, [], builtinsNs) : He.FnW) := e
      simp only [Option.some.injEq, Prod.mk.injEq] at e2
      obtain ⟨h1, h2, h3, h4, h5, h6, h7, h8⟩ := e2
      subst h1 h2 h3 h4 h5 h6 h7 h8
      obtain ⟨k1, k2⟩ := He.ba (show (PySem.W.codeIn K n13 d.qual && (He.dflB K n8 [] && He.kwdB K n9 [])) = true from c2)
      obtain ⟨k3, k4⟩ := He.ba k2
      exact ⟨_, ⟨oc, od, n8, n9, n10, n11, n12, n13, n14, osl, rfl, q, k1, He.dflB_ok k3, He.kwdB_ok k4⟩, kp⟩
    | _ => cases c2
theorem obsXG_eq {n : Nat} {fa : List He.Fa} {fn : List He.DefD} {ex : List (PySem.W.Frag → Bool)} {xs : List XcD} {gs : List GeD} {file : Str} {g : Addr → Option Obj} {s : Shared} (h : ∀ a, g a = s.heap.get? a) : obsXG n fa fn ex xs gs file g = (hookX n fa fn ex xs gs file).obs s := by
  have e : g = s.heap.get? := funext h
  rw [e] <;> rfl
section
variable {fa : List He.Fa} {fn : List He.DefD} {es : List (PySem.W.Frag → Bool)} {xs : List XcD} {gs : List GeD} {file : Str} {K : PySem.W.Frag} {mg : Str → Option Value}
theorem TxX.ge (T : TxX fa fn es xs gs file K mg) (i : Nat) {d : GeD} (h : gs[i]? = some d) : (d.kind = "property" → PropOf K (He.ga K d.cls) d.prop (prP K d.cls d.prop) (prG K d.cls d.prop)) ∧ (d.kind = "staticmethod" → StatOf K (He.ga K d.cls) d.prop (prP K d.cls d.prop) (wrG K "staticmethod" d.cls d.prop) ∧ PySem.W.keepIn K (.ref (wrG K d.kind d.cls d.prop)) = true) ∧ ∃ fd, FunD K d.prop d.qual d.params d.body d.scope [] [] (wrG K d.kind d.cls d.prop) fd := by
  have e2 : (gs.map fun d => fnG K d.kind d.cls d.prop)[i]? = (gs.map GeD.val)[i]? := by rw [T.gv]
  rw [List.getElem?_map, List.getElem?_map, h] at e2
  have o := List.all_eq_true.mp T.go d (List.mem_of_getElem? h)
  have o1 := (He.ba o).1
  refine ⟨fun e => ?_, fun e => ⟨?_, (He.ba (He.ba o).2).1⟩, GeD.funD (Option.some.inj e2) o⟩
  · rw [e] at o1; exact propB_ok o1
  · rw [e] at o1
    exact statB_ok o1
end
end Sim

/-! isinstance of a caught exception that has fields; properties -/
namespace PySem.W
open PySem PySem.Calls PyProof.Rows PySem.Spec
section
variable {prog : Program} {w : World} {A : Around} {E : Value → Shared → Prop} {s : Shared} {K : Frag} {x D : Addr} {ox : Obj} {od : Obj}
end
end PySem.W
namespace L2
open PySem PySem.Spec PyProof.Rows
end L2
namespace Sim
open PySem PySem.Spec PyProof.Rows L2 Evl
section
variable {K : PySem.W.Frag} {σ : L2.St} {G H W : Hp} {to : TE} {ta : TA} {α γ : Type} {T : Rep γ}
/-- o.f, a property -/
theorem e_prop {C : Addr} {ns : List Str} {fl : α → List Pd} {m : Option α} {f : α × Unit → Option γ} {X : XK} (h : E to σ G W (rObj C ns fl) m) : E (tProp C (PF (aC (rObj C ns fl) aN) T f) [] X to) σ G W T (m >>= fun o => f (o, ())) := fun z hz H e e' Q q => by
  obtain ⟨x, hx, hz⟩ := bindS hz
  refine h x hx H e e' _ fun v H1 G1 u r => ?_
  obtain ⟨a, dx, fs, rfl, h2, h3⟩ := r
  refine ⟨a, dx, fs, rfl, u.gh a _ h2, ?_⟩
  exact ⟨G1, (x, ()), z, u.gh, ⟨.ref a, [], rfl, ⟨a, dx, fs, rfl, h2, h3⟩, rfl⟩, hz, fun v H4 G4 u4 r4 => q v H4 G4 (u.trans u4) r4⟩
end
end Sim

namespace Sim
open PySem PySem.Spec PyProof.Rows L2 Evl
end Sim

/-! a class made whose __init__ may raise; isinstance of whatever was caught; tables of exception classes -/
namespace L2
open PySem PySem.Spec PyProof.Rows
section
variable {X : Cx} {CX : CXT} {k : Nat} {f C : Addr} {fd : FuncData} {ps : List Str} {sp : Sp} {E : St → XK} {x m : Str} {p pos apos : Pos} {e o : Expr} {es : List Expr} {ta : TE} {t : TA}
end
end L2
namespace Sim
open PySem PySem.Spec PyProof.Rows L2 Evl
/-! tables: what the top's end says of the exception classes cs -/
section
variable {K : PySem.W.Frag} {cs fs : List Str} {C D f : Str} {b : Bool}
end
section
variable {K : PySem.W.Frag} {σ : L2.St} {G H W G0 H0 G2 H2 : Hp} {ls : List Addr} {cs : Cs} {ta tb : TA} {to te tu : TE} {ι α β γ : Type} {A : AR ι} {R : Rep α} {S : Rep β} {T : Rep γ} {D : Ends} {l C : Addr} {ns : List Str} {fl : α → List Pd}
theorem Xat.upE {ls : List Addr} {e : Xn} {d : Addr} (h : Xat G e d) (x : Ex G G2) : Xat G2 e d := h.mono x
end
end Sim

/-! properties; == of further data; list + list; index; all, any -/
namespace Sim
open PySem PySem.Spec PyProof.Rows L2 Evl
def Fp (P : Program) (w : World) (K : PySem.W.Frag) (mg : Str → Option Value) (base : Heap) (CX : CXT) (k : Nat) (c m : Str) (ps : List Str) (sp : Sp) : Prop :=
  ∃ fd, FnOk P w K mg base CX k (prG K c m) fd ps sp ∧ Binds K fd ps []
theorem fp_mk {K : PySem.W.Frag} {mg : Str → Option Value} {P : Program} {w : World} {base : Heap} {CX : CXT} {k : Nat} {c m x qual : Str} {ps : List Str} {sp : Sp} {fd : FuncData} {params : Arguments} {body : List Stmt} {scope : Scope} (F : FunD K x qual params body scope [] [] (prG K c m) fd)
    (hb : ∀ (kV doc pm : Value) (an : Option Addr) (cdv ct : Value) (us : List Value), us.length = ps.length → bindArgs (PySem.W.fnOf x qual params body scope .none kV doc pm an cdv ct) ⟨us, []⟩ = pure (ps.zip us))
    (h : FnOk P w K mg base CX k (prG K c m) fd ps sp) : Fp P w K mg base CX k c m ps sp := ⟨fd, h, F.bindsN hb⟩
section
variable {K : PySem.W.Frag} {σ : L2.St} {G H W G' W' : Hp} {ta : TA} {te tu : TE} {ι α β γ : Type} {A : AR ι} {R : Rep α} {S : Rep β} {T : Rep γ}
theorem dtS : Dt rS PyData.str 0 := ⟨fun h => by rw [show _ = V.str _ from h]; exact .str _, fun _ => rfl, fun _ => Nat.le_refl _, fun x y => by simp [PyData.eqv]⟩
/-- never equal to None -/
class NoN (d : α → PyData) : Prop where
  ne : ∀ x, PyData.eqv .none (d x) = false ∧ PyData.eqv (d x) .none = false
instance : NoN PyData.int := ⟨fun x => ⟨by simp [PyData.eqv], by simp [PyData.eqv]⟩⟩
instance : NoN PyData.bool := ⟨fun x => ⟨by simp [PyData.eqv], by simp [PyData.eqv]⟩⟩
instance : NoN PyData.str := ⟨fun x => ⟨by simp [PyData.eqv], by simp [PyData.eqv]⟩⟩
instance {d : α → PyData} : NoN (fun xs : List α => PyData.list (xs.map d)) := ⟨fun x => ⟨by simp [PyData.eqv], by simp [PyData.eqv]⟩⟩
instance {d : α → PyData} : NoN (fun xs : List α => PyData.tuple (xs.map d)) := ⟨fun x => ⟨by simp [PyData.eqv], by simp [PyData.eqv]⟩⟩
instance {d : α → PyData} {f : β → PyData} : NoN (fun p : α × β => PyData.tuple [d p.1, f p.2]) := ⟨fun x => ⟨by simp [PyData.eqv], by simp [PyData.eqv]⟩⟩
def dO (d : α → PyData) : Option α → PyData
  | none => .none
  | some x => d x
theorem dtO {d : α → PyData} {n : Nat} (h : Dt R d n) [N : NoN d] : Dt (rO R) (dO d) n := by
  refine ⟨fun {K H v x} r => ?_, fun x => ?_, fun x => ?_, fun x y => ?_⟩
  · cases x with
    | none => have : v = .non := r; subst this; exact .non
    | some x => exact h.dp r
  · cases x with
    | none => rfl
    | some x => exact h.lay x
  · cases x with
    | none => exact Nat.zero_le _
    | some x => exact h.dep x
  · cases x with
    | none =>
      cases y with
      | none => simp [dO, PyData.eqv]
      | some y => simp [dO, (N.ne y).1]
    | some x =>
      cases y with
      | none => simp [dO, (N.ne x).2]
      | some y => simp [dO, h.eq x y]
/-- an operator that makes a new list -/
def RRL (r : R2) (R : Rep α) (S : Rep β) (T : Rep γ) (f : α → β → Option (List γ)) : Prop :=
  ∀ v w x y z H G, R.r G v x → S.r G w y → f x y = some z → Ex G H → ∀ Q : VK, (∀ p H2 G2, H p = none → Up G H G2 H2 → Wd G2 H2 [(p, cL T z)] → Q (.ref p) H2) → r v w H Q
theorem el_op {r : R2} {f : α → β → Option (List γ)} {ma : Option α} {mb : Option β} (hr : RRL r R S T f) (ha : E te σ G W R ma) (hb : E tu σ G W S mb) :
    EL (tOp r te tu) σ G W T (ma >>= fun x => mb >>= fun y => f x y) := fun z hz H e e' Q q => by
  obtain ⟨x, hx, hz⟩ := bindS hz
  obtain ⟨y, hy, hz⟩ := bindS hz
  refine ha x hx H e e' _ fun v H1 G1 u1 r1 => ?_
  refine (hb.mono u1.gg (e'.trans u1.hh)) y hy H1 u1.gh (Ex.refl _) _ fun w H2 G2 u2 r2 => ?_
  exact hr v w x y z H2 G2 (R.mono u2.gg r1) r2 hz u2.gh Q fun p H3 G3 hp u3 w3 => q p H3 G3 (fresh_back (u1.hh.trans u2.hh) hp) ((u1.trans u2).trans u3) w3
def catM (xs ys : List α) : Option (List α) := bif decide (xs.length + ys.length < 100000) then some (xs ++ ys) else none
theorem rrl_cat : RRL rCat (rL R) (rL R) R (fun xs ys => catM xs ys) := fun v w xs ys z H G hv hw hz e Q q => by
  obtain ⟨a, vs, rfl, h2, h3⟩ := hv
  obtain ⟨b, ws, rfl, k2, k3⟩ := hw
  have hz : (bif decide (xs.length + ys.length < 100000) then some (xs ++ ys) else none) = some z := hz
  cases hl : decide (xs.length + ys.length < 100000) with
  | false => rw [hl] at hz; cases hz
  | true =>
    rw [hl] at hz
    cases hz
    exact ⟨a, b, vs, ws, rfl, rfl, e a _ h2, e b _ k2, by rw [h3.length, k3.length]; exact sz_of (Nat.le_of_lt (of_decide_eq_true hl)), fun p hp => q p _ G hp (up_new e hp) (wd_new e hp (pr_app h3 k3))⟩
/-- a method of a built-in type that changes nothing -/
def RBM (rr : V → List V → Hp → VK → Prop) (R : Rep α) (A : AR ι) (T : Rep γ) (f : α → ι → Option γ) : Prop :=
  ∀ v vs x i z H G, R.r G v x → A.r G vs i → f x i = some z → Ex G H → ∀ Q : VK, (∀ u H2 G2, Up G H G2 H2 → T.r G2 u z → Q u H2) → rr v vs H Q
theorem e_bmL {rr : V → List V → Hp → VK → Prop} {f : List α → ι → Option γ} {m : Option (List α)} {mi : Option ι} (hr : RBM rr (rL R) A T f) (h : E te σ G W (rL R) m) (ha : EA ta σ G W A mi) : E (tBM K "list" rr te ta) σ G W T (m >>= fun x => mi >>= fun i => f x i) := fun z hz H e e' Q q => by
  obtain ⟨x, hx, hz⟩ := bindS hz
  obtain ⟨i, hi, hz⟩ := bindS hz
  refine h x hx H e e' _ fun v H1 G1 u1 r1 => ?_
  refine ⟨?_, (ha.mono u1.gg (e'.trans u1.hh)) i hi H1 u1.gh (Ex.refl _) _ fun vs H2 G2 u2 r2 => ?_⟩
  · obtain ⟨a, us, rfl, h2, _⟩ := r1
    exact .inl ⟨rfl, us, Or.inl (Or.inl (u1.gh a _ h2))⟩
  · exact hr v vs x i z H2 G2 ((rL R).mono u2.gg r1) r2 hz u2.gh Q fun u H3 G3 u3 r3 => q u H3 G3 ((u1.trans u2).trans u3) r3
def idxM (eq : α → α → Bool) (xs : List α) (y : α) : Option Int := (xs.findIdx? fun z => eq z y) >>= fun j => some (j : Int)
theorem idx_ok {eq : α → α → Bool} : ∀ {xs : List α} {y : α} {j : Nat}, (xs.findIdx? fun z => eq z y) = some j → ∃ z, xs[j]? = some z ∧ eq z y = true ∧ ∀ m z', m < j → xs[m]? = some z' → eq z' y = false := fun {xs y j} h => by
  obtain ⟨h1, h2, h3⟩ := List.findIdx?_eq_some_iff_getElem.mp h
  refine ⟨xs[j], List.getElem?_eq_getElem h1, h2, fun m z' hm hz => ?_⟩
  obtain ⟨hl, e⟩ := List.getElem?_eq_some_iff.mp hz
  subst e
  have := h3 m hm
  simpa using this
theorem rbm_index {eq : α → α → Bool} (f : FlR R eq) : RBM (rIndex K) (rL R) (aC R aN) rI (fun xs i => idxM eq xs i.1) := fun v vs xs i z H G hv ha hz e Q q => by
  obtain ⟨a, us, rfl, h2, h3⟩ := hv
  obtain ⟨y, _, rfl, r, rfl⟩ := ha
  obtain ⟨j, hj, hz⟩ := bindS hz
  cases hz
  obtain ⟨z, hz, he, hb⟩ := idx_ok hj
  obtain ⟨_, h5⟩ := pr_inV f r h3
  obtain ⟨w, hw, rw_⟩ := pr_get h3 hz
  refine ⟨a, us, y, j, w, rfl, rfl, Or.inl (Or.inl (e a _ h2)), f.fl r, h5, hw, by rw [f.eq rw_ r]; exact he, fun m z' hm hz' => ?_, q _ H G (Up.refl e) rfl⟩
  obtain ⟨x', hx', r'⟩ := pr_get' h3 hz'
  rw [f.eq r' r]; exact hb m x' hm hx'
end
end Sim

/-! operators of own classes: ==, len, in, binary and unary ones -/
namespace L2
open PySem PySem.Spec PyProof.Rows
section
variable {X : Cx} {CX : CXT} {k : Nat} {f C : Addr} {fd : FuncData} {ps : List Str} {sp : Sp} {pins : List (Addr × Obj)} {σ : St} {H : Hp} {s : Shared} {ta tb : TE}
end
end L2

/-! operators of own classes: what they read as -/
namespace Sim
open PySem PySem.Spec PyProof.Rows L2 Evl
section
variable {K : PySem.W.Frag} {σ : L2.St} {G H W : Hp} {ta tb te : TE} {tA : TA} {α β γ ι : Type} {R : Rep α} {S : Rep β} {T : Rep γ} {A : AR ι} {C : Addr} {ns : List Str} {fl : α → List Pd}
end
end Sim

/-! what is walked, told in general; comprehensions with two clauses -/
namespace Sim
open PySem L2 Evl
section
variable {K : PySem.W.Frag} {σ : L2.St} {G H W G' W' : Hp} {te tl : TE} {tt tt1 : TT} {α β γ δ : Type} {R : Rep α} {S : Rep β} {T : Rep γ} {wi wi1 : TI} {g g1 : TG}
/-! ### [e2 for x in xs if f1 for y in g2 x if p2] -/
section
variable {G0 H0 : Hp} {D : Addr} {acc : List V} {ys zs : List γ}
theorem Acc.add {v : V} {y : γ} (A : Acc G0 H0 T D G H acc ys) (r : T.r G v y) : Acc G0 H0 T D G (upd H D (.lst (acc ++ [v]))) (acc ++ [v]) (ys ++ [y]) := by
  refine ⟨A.n, ⟨A.u.gg, fun a o h => ?_, Ex.mut A.u.hh A.n, A.u.nw⟩, A.gd, upd_same, pr_app A.pr (.cons r .nil)⟩
  rw [upd_ne (fun z => by subst z; rw [A.gd] at h; cases h)]
  exact A.u.gh a o h
theorem Acc.start (e : Ex G0 H0) (hD : H0 D = none) : Acc G0 H0 T D G0 (upd H0 D (.lst [])) [] [] := ⟨hD, Up.same e (Ex.new hD), fresh_back e hD, upd_same, .nil⟩
theorem Acc.fin (A : Acc G0 H0 T D G H acc ys) : ∃ G, H0 D = none ∧ Up G0 H0 G H ∧ Wd G H [(D, cL T ys)] := by
  refine ⟨G, A.n, A.u, A.u.gh, fun c hc => ?_, List.nodup_cons.mpr ⟨List.not_mem_nil, List.nodup_nil⟩⟩
  cases List.mem_singleton.mp hc
  exact ⟨A.gd, _, A.hd, acc, rfl, A.pr⟩
end
/-! ### is True, is False; and where the first operand is known -/
end
section
variable {K : PySem.W.Frag} {σ : L2.St} {G H W : Hp} {te ta : TE} {α : Type}
theorem rc_lenP {β : Type} {R : Rep α} {S : Rep β} : RC (rLn K) (aC (rP R S) aN) rI (fun _ => some 2) := fun vs i z H G hv hz e Q q => by
  cases hz
  obtain ⟨v, ws, rfl, ⟨a, x, y, rfl, h2, h3, h4⟩, rfl⟩ := hv
  exact ⟨a, [x, y], rfl, Or.inr (Or.inl (Or.inl (e a _ h2))), q _ H G (Up.refl e) rfl⟩
end
end Sim

/-! static methods, class constants read off the class -/
namespace L2
open PySem PySem.Spec PyProof.Rows
section
variable {X : Cx} {CX : CXT} {k : Nat} {f C p : Addr} {fd : FuncData} {ps : List Str} {sp : Sp} {E : St → XK} {x m : Str} {pos apos : Pos} {e o : Expr} {es : List Expr} {ta : TE} {t : TA}
end
end L2
namespace Sim
open PySem PySem.Spec PyProof.Rows L2 Evl
section
variable {K : PySem.W.Frag} {σ : L2.St} {G H W : Hp} {ta : TA} {ι γ : Type} {A : AR ι} {T : Rep γ} {C : Addr}
end
end Sim

/-! data of mixed kinds; a pair unpacked; one-clause comprehensions over anything -/
namespace Sim
open PySem L2 Evl
section
variable {K : PySem.W.Frag} {σ : L2.St} {G H W G0 H0 : Hp} {ls : List Addr} {cs : Cs} {te : TE} {α β γ : Type} {R : Rep α} {S : Rep β} {T : Rep γ} {D : Ends} {tz : TS}
end
section
variable {K : PySem.W.Frag} {σ : L2.St} {G H W : Hp} {te : TE} {tt : TT} {α γ : Type} {R : Rep α} {T : Rep γ} {wi : TI} {g : TG}
end
end Sim

/-! dicts -/
namespace Sim
open PySem L2 Evl
section
variable {K : PySem.W.Frag} {σ : L2.St} {G H W : Hp} {κ α β γ : Type} {kf : κ → Key} {R : Rep α}
theorem ktM : KTy (rM kf R) "dict" := fun ⟨a, ws, h, h2, _⟩ => by rw [h]; exact .base (.dK h2)
end
end Sim

set_option maxHeartbeats 2000000
/-! own iterables: __iter__ gives iter(a list of theirs) -/
namespace L2
open PySem PySem.Spec PyProof.Rows ItX
/-- a def whose promise may speak of how many objects there are when it is called -/
structure FnOkS (P : Program) (w : World) (K : PySem.W.Frag) (mg : Str → Option Value) (base : Heap) (k : Nat) (f : Addr) (fd : FuncData) (ps : List Str) (sp : Nat → Sp) : Prop where
  len : ∀ n vs H Q E, sp n vs H Q E → vs.length = ps.length
  run : ∀ (A : Around) (outer : List Env) (s : Shared) (H : Hp) (args : Args) (us : List Value) (vs : List V) (Q : VK) (E : XK), Room k A → Env0 P w K mg base A outer s H → BindsTo s fd args (ps.zip us) → Vals vs us → sp s.heap.objs.size vs H Q E →
    codeAny (model P w) A (.call (.ref f) args) (CR CX0 outer P w H s Q E) s
section
variable {X : Cx} {k j : Nat} {fi C : Addr} {fd : FuncData} {ps : List Str} {pins : List (Addr × Obj)} {σ : St} {H : Hp} {s : Shared} {te : TE} {f : Str}
/-! ### list(o) -/
variable {fl : Addr} {fdl : FuncData} {psl : List Str} {spl : Sp}
end
end L2

namespace Sim
open PySem L2 Evl
section
variable {K : PySem.W.Frag} {σ : L2.St} {G H W : Hp} {te : TE} {α β γ : Type} {R : Rep β} {C : Addr} {ns : List Str} {fl : α → List Pd}
end
end Sim
namespace Sim
open PySem L2
end Sim

set_option maxHeartbeats 2000000
/-! a class with slots -/
namespace L2
open PySem PySem.Spec PyProof.Rows SlX
section
variable {X : Cx} {CX : CXT} {k : Nat} {f C : Addr} {fd : FuncData} {ps : List Str} {sp : Sp} {pins : List (Addr × Obj)} {σ : St} {H : Hp} {s : Shared} {ta tb : TE}
theorem fnR_of (F : FnOk X.prog X.w X.K X.mg X.base CX k f fd ps sp) (hb : Binds X.K fd ps []) : FnR X.prog X.w X.K X.mg X.base CX k f sp :=
  (F.raw hb .nil).imp fun vs H Q E h => by rw [List.append_nil]; exact h
end
end L2
namespace Sim
open PySem PySem.Spec PyProof.Rows L2 Evl SlX
def cN (C dx : Addr) : CP := ⟨fun _ o => o = .ins C dx [], fun _ h => h⟩
def cOw (x : Addr) : CP := ⟨fun _ o => o = .own x, fun _ h => h⟩
def cXd : CP := ⟨fun _ o => o = .xd [], fun _ h => h⟩
def cSl (x C dx : Addr) (ps : Ps) : CP := ⟨fun G o => ∃ vs, o = SlO x C dx vs ∧ PsAt ps G vs, fun e ⟨vs, h1, h2⟩ => ⟨vs, h1, h2.mono e⟩⟩
section
variable {K : PySem.W.Frag} {σ : L2.St} {G0 H0 G H G2 H2 W : Hp} {ls : List Addr} {cs : Cs} {l ld C : Addr} {ta : TA} {te to : TE} {α β γ ι : Type} {R : Rep α} {S : Rep β} {T : Rep γ} {A : AR ι} {D : Ends} {tz : TS} {fl : α → Ps}
/-- self.f = e, the first slot -/
theorem x_sl1 {i j j2 n : Nat} {f : Str} {p : Addr} {m : Option β} {x : β} (w : Wo G0 H0 ls G H cs) (hc : cs[j]? = some (l, cN C ld)) (hd : cs[j2]? = some (ld, cOw l)) (hi : σ[i]? = some (some (.ref l))) (h : E te σ G H S m) (hm : m = some x) (hC : SCls K C) (hs : Slot1 K C f p n)
    (hj : j ≠ j2) (k : ∀ H2 G2, Wo G0 H0 ls G2 H2 ((cs.set j2 (ld, cXd)).set j (l, cSl l C ld [(n, pd S x)])) → Ex G G2 → tz D σ H2) : tSeq (sSl K (tVar i) te f) tz D σ H :=
  h x hm H w.ex (Ex.refl _) (fun y H1 => tVar i σ H1 fun x H2 => ∃ a C dx p vs i, x = .ref a ∧ Slt H2 a C dx vs ∧ SCls K C ∧ Slot1 K C f p i ∧ tz D σ (slH H2 a C dx (putS i y vs))) fun v H3 G3 u r => by
    have w3 := w.up u
    obtain ⟨_, o3, k2, k3⟩ := w3.w.getAt hc
    subst k3
    refine ⟨.ref l, hi, l, C, ld, p, [], n, rfl, .inl ⟨k2, rfl⟩, hC, hs, ?_⟩
    have w4 := w3.writeAt (cp' := cXd) (o := .xd []) hd rfl
    have hc' : (cs.set j2 (ld, cXd))[j]? = some (l, cN C ld) := by rw [List.getElem?_set_ne (Ne.symm hj)]; exact hc
    exact k _ _ (w4.writeAt (cp' := cSl l C ld [(n, pd S x)]) (o := SlO l C ld (putS n v [])) hc' ⟨_, rfl, fun q hq => by
      rw [List.mem_singleton.mp hq]
      exact ⟨v, putS_get n v [], r⟩⟩) u.gg
/-- self.f = e, a further slot -/
theorem x_slN {i j j2 n : Nat} {f : Str} {p : Addr} {m : Option β} {x : β} {ps : Ps} (w : Wo G0 H0 ls G H cs) (hc : cs[j]? = some (l, cSl l C ld ps)) (hd : cs[j2]? = some (ld, cXd)) (hi : σ[i]? = some (some (.ref l))) (h : E te σ G H S m) (hm : m = some x) (hC : SCls K C) (hs : Slot1 K C f p n)
    (hj : j ≠ j2) (hn : ∀ p ∈ ps, p.1 ≠ n) (k : ∀ H2 G2, Wo G0 H0 ls G2 H2 ((cs.set j2 (ld, cXd)).set j (l, cSl l C ld (ps ++ [(n, pd S x)]))) → Ex G G2 → tz D σ H2) : tSeq (sSl K (tVar i) te f) tz D σ H :=
  h x hm H w.ex (Ex.refl _) (fun y H1 => tVar i σ H1 fun x H2 => ∃ a C dx p vs i, x = .ref a ∧ Slt H2 a C dx vs ∧ SCls K C ∧ Slot1 K C f p i ∧ tz D σ (slH H2 a C dx (putS i y vs))) fun v H3 G3 u r => by
    have w3 := w.up u
    obtain ⟨_, o3, k2, vs, rfl, k3⟩ := w3.w.getAt hc
    obtain ⟨_, o4, d2, d3⟩ := w3.w.getAt hd
    subst d3
    refine ⟨.ref l, hi, l, C, ld, p, vs, n, rfl, .inr ⟨k2, d2⟩, hC, hs, ?_⟩
    have w4 := w3.writeAt (cp' := cXd) (o := .xd []) hd rfl
    have hc' : (cs.set j2 (ld, cXd))[j]? = some (l, cSl l C ld ps) := by rw [List.getElem?_set_ne (Ne.symm hj)]; exact hc
    exact k _ _ (w4.writeAt (cp' := cSl l C ld (ps ++ [(n, pd S x)])) (o := SlO l C ld (putS n v vs)) hc' ⟨_, rfl, k3.put hn r⟩) u.gg
/-- the promise of an __init__ that stores slots -/
def PIs (C : Addr) (A : AR ι) (fl : α → Ps) (f : ι → Option α) : Sp := fun vs H Q _ => ∃ G x dx ws i o, vs = .ref x :: ws ∧ Wd G H [(x, cN C dx), (dx, cOw x)] ∧ A.r G ws i ∧ f i = some o ∧
  ∀ H2 G2, Fr G H G2 H2 [x, dx] → Wd G2 H2 [(x, cSl x C dx (fl o)), (dx, cXd)] → Q .non H2
theorem new_slt {x dx : Addr} (e : Ex G H) (nx : H x = none) (ndx : H dx = none) (ne : dx ≠ x) : Wd G (upd (upd H dx (.own x)) x (.ins C dx [])) [(x, cN C dx), (dx, cOw x)] := by
  have nx' : (upd H dx (.own x)) x = none := by rw [upd_ne ne.symm]; exact nx
  have e1 : Ex G (upd H dx (.own x)) := e.trans (Ex.new ndx)
  exact ((Wd.nil e).new ndx rfl).new nx' rfl
theorem sl_freeze {x dx : Addr} {ps : Ps} (w : Wd G H [(x, cSl x C dx ps), (dx, cXd)]) : ∃ G2, Ex G G2 ∧ Ex G2 H ∧ (∀ a, a ≠ x → a ≠ dx → G a = none → G2 a = none) ∧ ∃ vs, G2 x = some (SlO x C dx vs) ∧ G2 dx = some (.xd []) ∧ PsAt ps G2 vs := by
  obtain ⟨h1, o, h2, vs, rfl, h3⟩ := w.head
  obtain ⟨d1, o2, d2, d3⟩ := w.tail.head
  subst d3
  have ne : dx ≠ x := fun z => by
    have := w.nd
    rw [z] at this
    simp at this
  have e2 : Ex G (upd (upd G dx (.xd [])) x (SlO x C dx vs)) := (Ex.new d1).trans (Ex.new (by rw [upd_ne ne.symm]; exact h1))
  refine ⟨_, e2, fun a u e => ?_, fun a n1 n2 h => by rw [upd_ne n1, upd_ne n2]; exact h, vs, upd_same, by rw [upd_ne ne]; exact upd_same, h3.mono e2⟩
  by_cases q : a = x
  · subst q; rw [upd_same] at e; cases e; exact h2
  · rw [upd_ne q] at e
    by_cases q2 : a = dx
    · subst q2; rw [upd_same] at e; cases e; exact d2
    · rw [upd_ne q2] at e; exact w.ex a u e
theorem e_makeS {f : ι → Option α} {mi : Option ι} {X : XK} (ha : EA ta σ G W A mi) : E (tMake C (PIs C A fl f) [] X ta) σ G W (rSl C fl) (mi >>= f) := fun z hz H e e' Q q => by
  obtain ⟨i, hi, hz⟩ := bindS hz
  refine ha i hi H e e' _ fun vs H1 G1 u1 r1 => ?_
  intro x dx nx ndx ne
  rw [List.append_nil]
  refine ⟨G1, x, dx, vs, i, z, rfl, new_slt u1.gh nx ndx ne, r1, hz, fun H2 G2 fr w2 => ⟨rfl, ?_⟩⟩
  obtain ⟨G3, k1, k2, k3, vs', k4, k5, k6⟩ := sl_freeze w2
  have hh : Ex H1 H2 := fun a o h => by
    have na : a ≠ x := ne_of_none h nx
    have nd : a ≠ dx := ne_of_none h ndx
    exact fr.fr a o (by rw [upd_ne na, upd_ne nd]; exact h) fun z => by simp [na, nd] at z
  have up : Up G1 H1 G3 H2 := ⟨fr.gg.trans k1, k2, hh, fun a h1 h2 => by
    have na : a ≠ x := fun z => by subst z; exact h1 nx
    have nd : a ≠ dx := fun z => by subst z; exact h1 ndx
    exact k3 a na nd (fr.nw a (by rw [upd_ne na, upd_ne nd]; exact h1) h2)⟩
  exact q _ H2 G3 (u1.trans up) ⟨x, dx, vs', rfl, k4, k5, k6⟩
/-- o.f -/
theorem e_sl {m : Option α} {f : Str} {p : Addr} {n : Nat} (g : α → β) (h : E to σ G W (rSl C fl) m) (hC : SCls K C) (hs : Slot1 K C f p n) (hp : ∀ x, (n, pd S (g x)) ∈ fl x) : E (tSl K to f) σ G W S (m >>= fun x => some (g x)) := fun z hz H e e' Q q => by
  obtain ⟨x, hx, hz⟩ := bindS hz
  cases hz
  refine h x hx H e e' _ fun v H1 G1 u r => ?_
  obtain ⟨a, dx, vs, rfl, h2, h3, h4⟩ := r
  obtain ⟨w, hw, r2⟩ := h4 _ (hp x)
  exact ⟨a, C, dx, p, vs, n, w, rfl, .inr ⟨u.gh a _ h2, u.gh dx _ h3⟩, hC, hs, hw, q w H1 G1 u r2⟩
/-- o.m(..) -/
theorem e_methS {m : Option α} {mi : Option ι} {f : α × ι → Option γ} {X : XK} (h : E to σ G W (rSl C fl) m) (ha : EA ta σ G W A mi) : E (tMethSl C (PF (aC (rSl C fl) A) T f) X to ta) σ G W T (m >>= fun o => mi >>= fun i => f (o, i)) := fun z hz H e e' Q q => by
  obtain ⟨x, hx, hz⟩ := bindS hz
  obtain ⟨y, hy, hz⟩ := bindS hz
  refine h x hx H e e' _ fun v H1 G1 u r => ?_
  obtain ⟨a, dx, us, rfl, h2, h3, h4⟩ := r
  refine ⟨a, dx, us, rfl, .inr ⟨u.gh a _ h2, u.gh dx _ h3⟩, ?_⟩
  refine (ha.mono u.gg (e'.trans u.hh)) y hy H1 u.gh (Ex.refl _) _ fun vs H3 G3 u3 r3 => ?_
  exact ⟨G3, (x, y), z, u3.gh, ⟨.ref a, vs, rfl, ⟨a, dx, us, rfl, u3.gg a _ h2, u3.gg dx _ h3, h4.mono u3.gg⟩, r3⟩, hz, fun v H4 G4 u4 r4 => q v H4 G4 ((u.trans u3).trans u4) r4⟩
/-! own == -/
end
/-! facts of the text -/
theorem scl_ok {C : Str} {K : PySem.W.Frag} (h : sclB C K = true) : SCls K (He.ga K C) := by
  obtain ⟨h1, h⟩ := He.ba h
  obtain ⟨h2, h⟩ := He.ba h
  obtain ⟨h3, h4⟩ := He.ba h
  exact ⟨h1, h2, h3, of_decide_eq_true h4⟩
theorem slot_ok {C f : Str} {i : Nat} {K : PySem.W.Frag} (h : slotB C f i K = true) : Slot1 K (He.ga K C) f (He.ma K (He.ga K C) f) i := by
  obtain ⟨h1, h⟩ := He.ba h
  obtain ⟨h2, h⟩ := He.ba h
  obtain ⟨h3, h⟩ := He.ba h
  obtain ⟨h4, h⟩ := He.ba h
  obtain ⟨h5, h6⟩ := He.ba h
  exact ⟨of_decide_eq_true h1, of_decide_eq_true h2, of_decide_eq_true h3, of_decide_eq_true h4, of_decide_eq_true h5, of_decide_eq_true h6⟩
end Sim

/-! cells of any kind; dicts; texts -/
namespace L2
open PySem PySem.Spec PyProof.Rows
section
variable {X : Cx}
def rMulS : R2 := fun x y H Q => ∃ z n, x = .str z ∧ y = .int n ∧ MulOk z n ∧ Q (.str (Txt.mul z n)) H
theorem op_mulS : OpR X (binaryOp .Mult) rMulS := by
  intro pins s σ H x y v u Q I rx ry h
  obtain ⟨z, n, rfl, rfl, hok, q⟩ := h
  obtain ⟨t, rfl⟩ := rx
  obtain ⟨t', rfl⟩ := ry
  exact SB.mul hok fun t2 k => ⟨.str _, H, I.tok _, ⟨_, rfl⟩, q⟩
abbrev rAddS : R2 := fun x y H Q => ∃ i j, x = .str i ∧ y = .str j ∧ i.length + j.length ≤ sizeLine ∧ Q (.str (i ++ j)) H
abbrev rLsD : List V → Hp → VK → Prop := fun xs H Q => ∃ (a : Addr) (kvs : List (Key × V)), xs = [.ref a] ∧ Rd H a (.dK kvs) ∧ ∀ p, H p = none → Q (.ref p) (upd H p (.lst (kvs.map fun kv => kV kv.1)))
end
end L2
namespace Sim
open PySem L2 Evl
/-! ### texts -/
def addS (x y : Str) : Option Str := bif decide (x.length + y.length < 100000) then some (x ++ y) else none
def mulS (z : Str) (n : Int) : Option Str := bif decide (n < 100 ∧ -100 < n ∧ z.length < 1000) then some (Txt.mul z n) else none
def ixS (z : Str) (i : Int) : Option Str := bif decide (z.length < 100000) then (atI z.cps.toList i >>= fun c => some ⟨#[c]⟩) else none
theorem bifO1 {α : Type} {c : Prop} [Decidable c] {m : Option α} {z : α} (h : (bif decide c then m else none) = some z) : c ∧ m = some z := by
  cases hc : decide c with
  | false => rw [hc] at h; cases h
  | true => rw [hc] at h; exact ⟨of_decide_eq_true hc, h⟩
section
variable {K : PySem.W.Frag} {σ : L2.St} {G0 H0 G H G2 H2 W : Hp} {ls : List Addr} {cs : Cs} {l : Addr} {cp' : CP} {ta : TA} {te td ti tx : TE} {α β γ ι κ : Type} {R : Rep α} {S : Rep β} {T : Rep γ} {A : AR ι} {D : Ends} {tz : TS}
theorem rr_addS : RR rAddS rS rS rS (fun x y => addS x y) := fun v w x y z H G hv hw hz e Q q => by
  cases hv; cases hw
  obtain ⟨h, hz⟩ := bifO1 hz
  cases hz
  exact ⟨x, y, rfl, rfl, by rw [sizeLine_eq]; omega, q _ H G (Up.refl e) rfl⟩
theorem rr_mulS : RR rMulS rS rI rS (fun x y => mulS x y) := fun v w x y z H G hv hw hz e Q q => by
  cases hv; cases hw
  obtain ⟨⟨h1, h2, h3⟩, hz⟩ := bifO1 hz
  cases hz
  refine ⟨x, y, rfl, rfl, ⟨?_, fun h4 _ h5 => ?_, fun h4 _ => ?_⟩, q _ H G (Up.refl e) rfl⟩
  · rw [Bool.or_eq_false_iff]; exact ⟨decide_eq_false (by omega), decide_eq_false (by omega)⟩
  · have : (2 ^ 63 - 1 : Int) / y ≥ 1000 := by
      apply (Int.le_ediv_iff_mul_le (by omega)).mpr
      omega
    omega
  · have h6 : x.length * y.toNat ≤ 1000 * 100 := Nat.mul_le_mul (by omega) (by omega)
    exact decide_eq_false (by rw [sizeLine_eq]; omega)
theorem rr_ixS : RR rIxS rS rI rS (fun x y => ixS x y) := fun v w x y z H G hv hw hz e Q q => by
  cases hv; cases hw
  obtain ⟨h, hz⟩ := bifO1 hz
  obtain ⟨c, hc, hz⟩ := bindS hz
  cases hz
  exact ⟨x, y, c, rfl, rfl, by rw [sizeLine_eq]; omega, hc, q _ H G (Up.refl e) rfl⟩
/-! ### cells of any kind -/
variable {cp : β → CP}
theorem Wo.newC {p : Addr} {c : CP} (w : Wo G0 H0 ls G H cs) (n : H p = none) (u : Up G H G2 H2) (w2 : Wd G2 H2 [(p, c)]) : Wo G0 H0 ls G2 H2 ((p, c) :: cs) := by
  have n0 : H0 p = none := by
    cases q : H0 p with
    | none => rfl
    | some o => exact absurd n (w.f.st p (by rw [q]; simp))
  have w3 := w.up u
  refine ⟨⟨w3.ex, fun c hc => ?_, ?_⟩, w3.f, fun c hc => ?_⟩
  · rcases List.mem_cons.mp hc with hc | hc
    · subst hc; exact w2.head
    · exact w3.w.at_ c hc
  · refine List.nodup_cons.mpr ⟨fun hm => ?_, w.w.nd⟩
    obtain ⟨c, hc, e⟩ := List.mem_map.mp hm
    obtain ⟨_, o', h2, _⟩ := w.w.at_ c hc
    exact ne_of_none h2 n e
  · rcases List.mem_cons.mp hc with hc | hc
    · subst hc; exact .inr n0
    · exact w.lo c hc
theorem c_c {m : Option β} {x : β} {Q : VK} (w : Wo G0 H0 ls G H cs) (h : EC te σ G H cp m) (hm : m = some x) (k : ∀ p H2 G2, H0 p = none → Wo G0 H0 ls G2 H2 ((p, cp x) :: cs) → Ex G G2 → Q (.ref p) H2) : te σ H Q :=
  h x hm H w.ex (Ex.refl _) Q fun p H2 G2 hp u w2 => k p H2 G2 (by
    cases q : H0 p with
    | none => rfl
    | some o => exact absurd hp (w.f.st p (by rw [q]; simp))) (w.newC hp u w2) u.gg
theorem x_setC {i : Nat} {m : Option β} {x : β} (w : Wo G0 H0 ls G H cs) (h : EC te σ G H cp m) (hm : m = some x) (k : ∀ p H2 G2, H0 p = none → Wo G0 H0 ls G2 H2 ((p, cp x) :: cs) → Ex G G2 → tz D (σ.set i (some (.ref p))) H2) : tSeq (tAsg te (gName i)) tz D σ H :=
  c_c (Q := fun x H1 => gName i x σ H1 (tz D)) w h hm k
theorem Wo.rCAt {i : Nat} {x : β} (F : Fz cp S) (w : Wo G0 H0 ls G H cs) (h : cs[i]? = some (l, cp x)) : S.r H (.ref l) x := by
  obtain ⟨h1, o, h2, h3⟩ := w.w.getAt h
  exact F h3 w.ex h2
theorem Wo.freezeC {i : Nat} {x : β} (F : Fz cp S) (w : Wo G0 H0 ls G H cs) (h : cs[i]? = some (l, cp x)) (hl : H0 l = none) : ∃ G2, Wo G0 H0 ls G2 H (cs.eraseIdx i) ∧ Ex G G2 ∧ S.r G2 (.ref l) x := by
  obtain ⟨h1, o, h2, h3⟩ := w.w.getAt h
  refine ⟨upd G l o, ⟨⟨fun a u e => ?_, fun c hc => ?_, ?_⟩, ⟨w.f.gg.trans (Ex.new h1), w.f.fr, fun a k1 k2 => ?_, w.f.st⟩, fun c hc => w.lo c (List.mem_of_mem_eraseIdx hc)⟩, Ex.new h1, F h3 (Ex.new h1) upd_same⟩
  · by_cases q : a = l
    · subst q; rw [upd_same] at e; cases e; exact h2
    · rw [upd_ne q] at e; exact w.ex a u e
  · obtain ⟨k1, o', k2, k3⟩ := w.w.at_ c (List.mem_of_mem_eraseIdx hc)
    have ne : c.1 ≠ l := fun z => by
      have hi : (cs.map (·.1))[i]? = some l := by rw [List.getElem?_map, h]; rfl
      obtain ⟨j, hj, e⟩ := List.mem_iff_getElem.mp hc
      have e : (cs.eraseIdx i)[j]? = some c := by rw [List.getElem?_eq_getElem hj, e]
      rw [List.getElem?_eraseIdx] at e
      split at e
      · rename_i hlt
        have : (cs.map (·.1))[j]? = some l := by rw [List.getElem?_map, e]; exact congrArg some z
        have := nodup_ix w.w.nd hi this
        omega
      · rename_i hlt
        have : (cs.map (·.1))[j + 1]? = some l := by rw [List.getElem?_map, e]; exact congrArg some z
        have := nodup_ix w.w.nd hi this
        omega
    exact ⟨by rw [upd_ne ne]; exact k1, o', k2, c.2.mono (Ex.new h1) k3⟩
  · exact List.Pairwise.sublist ((List.eraseIdx_sublist cs i).map (·.1)) w.w.nd
  · by_cases q : a = l
    · subst q; exact absurd hl k1
    · rw [upd_ne q]; exact w.f.nw a k1 k2
/-! ### dicts -/
variable {κ : Type} [DecidableEq κ] {kf : κ → Key}
theorem fzM : Fz (cM kf R) (rM kf R) := fun ⟨ws, h1, h2⟩ e h => ⟨_, ws, rfl, by rw [h, h1], Paired.mapP h2 fun _ _ h => ⟨h.1, R.mono e h.2⟩⟩
def putMM (kvs : List (κ × α)) (k : κ) (x : α) : Option (List (κ × α)) := bif decide (kvs.length < 100000) then some (putM kvs k x) else none
abbrev Inj (kf : κ → Key) : Prop := ∀ a b, kf a = kf b → a = b
theorem injS : Inj (Sum.inr : Str → Key) := fun _ _ h => Sum.inr.inj h
theorem pm_look (hj : Inj kf) (k : κ) : ∀ {ws : List (Key × V)} {kvs : List (κ × α)}, Pm kf R G ws kvs → (lookM kvs k = none ∧ valV ws (kf k) = none) ∨ ∃ v x, lookM kvs k = some x ∧ valV ws (kf k) = some v ∧ R.r G v x
  | _, _, .nil => .inl ⟨rfl, rfl⟩
  | _, _, .cons (a := p) (b := q) h t => by
    by_cases e : q.1 = k
    · exact .inr ⟨p.2, q.2, by simp [lookM, List.find?_cons, e], by rw [valV_pos (by rw [h.1, e])], h.2⟩
    · have e' : ¬ p.1 = kf k := fun z => e (hj _ _ (h.1.symm.trans z))
      have e1 : ∀ kvs : List (κ × α), lookM (q :: kvs) k = lookM kvs k := fun kvs => by unfold lookM; rw [List.find?_cons, decide_eq_false e]
      rw [e1, valV_neg e']
      exact pm_look hj k t
theorem pm_any (hj : Inj kf) (k : κ) : ∀ {ws : List (Key × V)} {kvs : List (κ × α)}, Pm kf R G ws kvs → (ws.any fun q => decide (q.1 = kf k)) = kvs.any fun q => decide (q.1 = k)
  | _, _, .nil => rfl
  | _, _, .cons (a := p) (b := q) h t => by
    rw [List.any_cons, List.any_cons, pm_any hj k t, h.1]
    congr 1
    by_cases e : q.1 = k
    · rw [decide_eq_true e, decide_eq_true (by rw [e])]
    · rw [decide_eq_false e, decide_eq_false fun z => e (hj _ _ z)]
theorem pm_map (hj : Inj kf) (k : κ) {v : V} {x : α} (r : R.r G v x) : ∀ {ws : List (Key × V)} {kvs : List (κ × α)}, Pm kf R G ws kvs → Pm kf R G (ws.map fun q => if q.1 = kf k then (q.1, v) else q) (kvs.map fun q => if q.1 = k then (q.1, x) else q)
  | _, _, .nil => .nil
  | _, _, .cons (a := p) (b := q) h t => by
    refine .cons ?_ (pm_map hj k r t)
    show (if p.1 = kf k then (p.1, v) else p).1 = kf (if q.1 = k then (q.1, x) else q).1 ∧ R.r G (if p.1 = kf k then (p.1, v) else p).2 (if q.1 = k then (q.1, x) else q).2
    by_cases e : q.1 = k
    · rw [if_pos (by rw [h.1, e]), if_pos e]; exact ⟨h.1, r⟩
    · rw [if_neg fun z => e (hj _ _ (h.1.symm.trans z)), if_neg e]; exact h
theorem pm_app : ∀ {ws : List (Key × V)} {kvs : List (κ × α)} {ws' : List (Key × V)} {kvs' : List (κ × α)}, Pm kf R G ws kvs → Pm kf R G ws' kvs' → Pm kf R G (ws ++ ws') (kvs ++ kvs')
  | _, _, _, _, .nil, h => h
  | _, _, _, _, .cons r t, h => .cons r (pm_app t h)
theorem pm_put (hj : Inj kf) {k : κ} {v : V} {x : α} (r : R.r G v x) {ws : List (Key × V)} {kvs : List (κ × α)} (h : Pm kf R G ws kvs) : Pm kf R G (putK ws (kf k) v) (putM kvs k x) := by
  unfold putK putM
  rw [pm_any hj k h]
  split
  · exact pm_map hj k r h
  · exact pm_app h (.cons ⟨rfl, r⟩ .nil)
/-- how a key stands -/
structure KyR (kf : κ → Key) (S : Rep κ) : Prop where
  v : ∀ {H : Hp} {v : V} {k : κ}, S.r H v k → v = kV (kf k)
theorem kyS : KyR Sum.inr rS := ⟨fun h => h⟩
/-- d[k] = e, d a cell -/
theorem x_putM {a j : Nat} {Sk : Rep κ} {m : Option α} {mk : Option κ} {x : α} {k : κ} {kvs kvs' : List (κ × α)} (ky : KyR kf Sk) (hj : Inj kf) (w : Wo G0 H0 ls G H cs) (hc : cs[j]? = some (l, cM kf R kvs)) (hi : σ[a]? = some (some (.ref l))) (h : E te σ G H R m) (hm : m = some x)
    (h' : E ti σ G H Sk mk) (hm' : mk = some k) (hy : putMM kvs k x = some kvs') (kk : ∀ H2 G2, Wo G0 H0 ls G2 H2 (cs.set j (l, cM kf R kvs')) → Ex G G2 → tz D σ H2) : tSeq (sDPut (tVar a) ti te) tz D σ H :=
  h x hm H w.ex (Ex.refl _) (fun v H1 => tVar a σ H1 fun x H2 => ti σ H2 fun y H3 => ∃ a H4, x = .ref a ∧ DPut H3 a y v H4 ∧ tz D σ H4) fun v H3 G3 u r => by
    have w3 := w.up u
    refine ⟨.ref l, hi, (h'.mono u.gg u.hh) k hm' H3 w3.ex (Ex.refl _) _ fun v' H4 G4 u' r' => ?_⟩
    have w4 := w3.up u'
    obtain ⟨_, o, k2, ws, rfl, k3⟩ := w4.w.getAt hc
    obtain ⟨hl, hy⟩ := bifO1 hy
    cases hy
    rw [ky.v r']
    refine ⟨l, _, rfl, DPut.k k2 (by rw [k3.length, sizeLine_eq]; omega), ?_⟩
    exact kk _ _ (w4.writeAt hc ⟨_, rfl, pm_put hj (R.mono u'.gg r) k3⟩) (u.gg.trans u'.gg)
/-- d[k] -/
theorem e_dget {Sk : Rep κ} {m : Option (List (κ × α))} {mk : Option κ} (ky : KyR kf Sk) (hj : Inj kf) (h : E td σ G W (rM kf R) m) (h' : E ti σ G W Sk mk) : E (tDGet td ti) σ G W R (m >>= fun d => mk >>= fun k => lookM d k) := fun z hz H e e' Q q => by
  obtain ⟨d, hd, hz⟩ := bindS hz
  obtain ⟨k, hk, hz⟩ := bindS hz
  refine h d hd H e e' _ fun v H1 G1 u r => ?_
  refine (h'.mono u.gg (e'.trans u.hh)) k hk H1 u.gh (Ex.refl _) _ fun v' H2 G2 u2 r2 => ?_
  obtain ⟨a, ws, rfl, k2, k3⟩ := (rM kf R).mono u2.gg r
  rcases pm_look hj k k3 with ⟨e1, _⟩ | ⟨w, x, e1, e2, r3⟩
  · rw [e1] at hz; cases hz
  · rw [e1] at hz
    cases hz
    rw [ky.v r2]
    exact ⟨a, w, rfl, by rw [← e2]; exact DGet.k (u2.gh a _ k2), q w H2 G2 (u.trans u2) r3⟩
theorem e_dnotin {Sk : Rep κ} {m : Option (List (κ × α))} {mk : Option κ} (ky : KyR kf Sk) (hj : Inj kf) (h' : E ti σ G W Sk mk) (h : E td σ G W (rM kf R) m) : E (tDNotIn ti td) σ G W rB (mk >>= fun k => m >>= fun d => some (!(lookM d k).isSome)) := fun z hz H e e' Q q => by
  obtain ⟨k, hk, hz⟩ := bindS hz
  obtain ⟨d, hd, hz⟩ := bindS hz
  cases hz
  refine h' k hk H e e' _ fun v' H1 G1 u r2 => ?_
  refine (h.mono u.gg (e'.trans u.hh)) d hd H1 u.gh (Ex.refl _) _ fun v H2 G2 u2 r => ?_
  obtain ⟨a, ws, rfl, k2, k3⟩ := r
  rw [ky.v r2]
  refine ⟨a, _, rfl, DGet.k (u2.gh a _ k2), ?_⟩
  rcases pm_look hj k k3 with ⟨e1, e2⟩ | ⟨w, y, e1, e2, r4⟩ <;> (rw [e1] at q; rw [e2]; exact q _ H2 G2 (u.trans u2) rfl)
/-- list(d) -/
theorem rc_listM {Sk : Rep κ} (hk : ∀ (G : Hp) (k : κ), Sk.r G (kV (kf k)) k) : RCL rLsD (aC (rM kf R) aN) Sk (fun i => some (i.1.map (·.1))) := fun vs i z H G hv hz e Q q => by
  cases hz
  obtain ⟨d, ⟨⟩⟩ := i
  obtain ⟨v, ws, rfl, ⟨a, us, rfl, h2, h3⟩, rfl⟩ := hv
  refine ⟨a, us, rfl, .inl (e a _ h2), fun p hp => q p _ G hp (up_new e hp) (wd_new e hp ?_)⟩
  clear h2 q
  replace h3 : Paired (fun (p : Key × V) (q : κ × α) => p.1 = kf q.1 ∧ R.r G p.2 q.2) us d := h3
  induction h3 with
  | nil => exact .nil
  | cons h t ih =>
    rename_i a1 b1 _ _
    refine .cons ?_ ih
    show Sk.r G (kV a1.1) b1.1
    rw [h.1]; exact hk _ _
theorem kyrS (G : Hp) (k : Str) : rS.r G (kV (Sum.inr k)) k := rfl
end
end Sim

/-! displays and making of objects, opened -/
namespace Sim
open PySem L2 Evl
section
variable {K : PySem.W.Frag} {C : Addr} {σ : L2.St} {G0 H0 G H G2 H2 W : Hp} {ls : List Addr} {cs : Cs} {l : Addr} {ta : TA} {sp : Sp} {dvs : List V} {X : XK} {Q : VK} {α β ι : Type} {R : Rep α} {S : Rep β} {A : AR ι}
def tK (vs : List V) : TA := fun _ H Q => Q vs H
theorem o_tup (h : ta σ H fun vs H1 => tTup (tK vs) σ H1 Q) : tTup ta σ H Q := h
theorem c_pairO {v u : V} {x : α} {y : β} (w : Wo G0 H0 ls G H cs) (hx : R.r G v x) (hy : S.r G u y) (k : ∀ v H2 G2, Wo G0 H0 ls G2 H2 cs → Ex G G2 → (rP R S).r G2 v (x, y) → Q v H2) : tTup (tK [v, u]) σ H Q := by
  refine ⟨by show 2 ≤ sizeLine; decide, fun p hp => k _ _ _ (w.up (Up.lay w.ex hp)) (Ex.new (fresh_back w.ex hp)) ⟨p, v, u, rfl, upd_same, R.mono ?_ hx, S.mono ?_ hy⟩⟩
  · exact Ex.new (fresh_back w.ex hp)
  · exact Ex.new (fresh_back w.ex hp)
end
end Sim

/-! slices of lists, f-strings, join -/
namespace Sim
open PySem L2 Evl
section
variable {K : PySem.W.Frag} {σ : L2.St} {G H W : Hp} {te to : TE} {tl th : TO} {α : Type} {R : Rep α}
def EO (t : TO) (σ : L2.St) (G W : Hp) (m : Option (Option Int)) : Prop := ∀ o, m = some o → ∀ H, Ex G H → Ex W H → ∀ Q : Option Int → Hp → Prop, (∀ H2, Ex H H2 → Q o H2) → t σ H Q
theorem eo_no : EO tNoPart σ G W (some none) := fun o ho H _ _ Q q => by
  cases ho
  exact q H (Ex.refl _)
theorem eo_at {m : Option Int} (h : E te σ G W rI m) : EO (tPart te) σ G W (m >>= fun i => some (some i)) := fun o ho H e e' Q q => by
  obtain ⟨i, hi, ho⟩ := bindS ho
  cases ho
  refine h i hi H e e' _ fun v H2 G2 u r => ?_
  exact ⟨i, r, q H2 u.hh⟩
def cutM (xs : List α) (lo hi : Option Int) : List α := (xs.drop (HT.sIx xs.length 0 lo)).take (HT.sIx xs.length xs.length hi - HT.sIx xs.length 0 lo)
theorem pr_cut {P : V → α → Prop} {vs : List V} {xs : List α} (lo hi : Option Int) (h : Paired P vs xs) : Paired P (cutV vs lo hi) (cutM xs lo hi) := by
  unfold cutV cutM
  rw [h.length]
  exact pr_take _ (pr_drop _ h)
theorem el_slice {m : Option (List α)} {ml mh : Option (Option Int)} (h : E te σ G W (rL R) m) (hl : EO tl σ G W ml) (hh : EO th σ G W mh) : EL (tSl (rSlL K) te tl th) σ G W R (m >>= fun xs => ml >>= fun lo => mh >>= fun hi => some (cutM xs lo hi)) := fun z hz H e e' Q q => by
  obtain ⟨xs, hx, hz⟩ := bindS hz
  obtain ⟨lo, hlo, hz⟩ := bindS hz
  obtain ⟨hi, hhi, hz⟩ := bindS hz
  cases hz
  refine h xs hx H e e' _ fun v H1 G1 u r => ?_
  refine hl lo hlo H1 (e.trans u.hh) (e'.trans u.hh) _ fun H2 x2 => ?_
  refine hh hi hhi H2 (e.trans (u.hh.trans x2)) (e'.trans (u.hh.trans x2)) _ fun H3 x3 => ?_
  obtain ⟨a, vs, rfl, h2, h3⟩ := r
  have x := x2.trans x3
  have u1 := u.trans (Up.same u.gh x)
  exact ⟨a, vs, rfl, .inl (.inl (x a _ (u.gh a _ h2))), fun p hp => q p _ G1 (fresh_back u1.hh hp) (u1.trans (up_new u1.gh hp)) (wd_new u1.gh hp (pr_cut lo hi h3))⟩
/-! f-strings -/
/-! join -/
/-! p[0], p[1] with effects; a cell's element -/
variable {G0 H0 : Hp} {ls : List Addr} {cs : Cs} {l : Addr} {β : Type} {S : Rep β}
/-! C(.., cell, ..) of a class with slots, the cell only read -/
variable {κ ι : Type} {B : Rep κ} {C : Addr} {A : AR ι} {fl : α → Ps} {ad : ι → Addr} {ys : List κ} {ta : TA}
/-! comprehensions over a lent list -/
section
variable {γ : Type} {T : Rep γ} {wi : TI} {g : TG} {tt : TT}
end
/-! what is never reached -/
end
end Sim

/-! for .. in zip(tuple, tuple) -/
namespace Sim
open PySem L2 Evl
section
variable {K : PySem.W.Frag} {σ : L2.St} {G0 H0 G H W : Hp} {ls : List Addr} {cs : Cs} {ta : TA} {α β : Type} {R : Rep α} {S : Rep β} {D : Ends} {tu tz : TS} {g : TG}
theorem for_zipU {a b : Addr} {xs ys : List V} {g : TG} {tb : TS} {D : Ends} {σ : L2.St} {H : Hp} (Pv : Nat → L2.St → Hp → Prop) (h0 : Pv 0 σ H) (hq : ∀ i σ H, Pv i σ H → SqT K H a xs ∧ SqT K H b ys)
    (hs : ∀ (i : Nat) (x y : V) (T : Addr) (σ : L2.St) (H : Hp), xs[i]? = some x → ys[i]? = some y → Pv i σ H → H T = none → g (.ref T) σ (upd H T (.tup [x, y])) fun σ2 H2 => tb { D with nx := Pv (i + 1), ct := Pv (i + 1), bk := D.nx } σ2 H2) (hd : ∀ σ H, Pv (min xs.length ys.length) σ H → D.nx σ H) :
    ∃ W : Nat → Nat → L2.St → Hp → Prop, (∃ m, W 0 m σ H) ∧ ∀ i m σ H, W i m σ H →
      ((RZ.ItzT K a b).stop i H ∧ D.nx σ H) ∨ ((RZ.ItzT K a b).go i H ∧ ∃ N : L2.St → Hp → Prop, (∀ σ' H', N σ' H' → ∃ m', m' < m ∧ W (i + 1) m' σ' H') ∧ ∀ v H', (RZ.ItzT K a b).yld i H v H' → g v σ H' fun σ2 H2 => tb { D with nx := N, ct := N, bk := D.nx } σ2 H2) := by
  refine ⟨fun i m σ H => m = min xs.length ys.length - i ∧ i ≤ min xs.length ys.length ∧ Pv i σ H, ⟨_, rfl, Nat.zero_le _, h0⟩, ?_⟩
  rintro i m σ H ⟨rfl, hi, p⟩
  obtain ⟨qx, qy⟩ := hq i σ H p
  by_cases hlt : i < min xs.length ys.length
  · have h1 : i < xs.length := by omega
    have h2 : i < ys.length := by omega
    have hx : xs[i]? = some xs[i] := List.getElem?_eq_getElem h1
    have hy : ys[i]? = some ys[i] := List.getElem?_eq_getElem h2
    refine .inr ⟨⟨xs, ys, _, _, qx, qy, hx, hy⟩, Pv (i + 1), fun σ' H' p' => ⟨min xs.length ys.length - (i + 1), by omega, rfl, hlt, p'⟩, fun v H' y => ?_⟩
    obtain ⟨T, x', y', rfl, hT, rfl, f1, f2⟩ := y
    exact hs i x' y' T σ H (f1 xs qx) (f2 ys qy) p hT
  · have e : i = min xs.length ys.length := by omega
    subst e
    exact .inl ⟨⟨xs, ys, qx, qy, by omega⟩, hd σ H p⟩
theorem x_forZ {xs : List α} {ys : List β} {m : Option (List α × List β × Unit)} (w : Wo G0 H0 ls G H cs) (h : EA ta σ G H (aC (rT R) (aC (rT S) aN)) m) (hm : m = some (xs, ys, ())) (P : Nat → Hp → Hp → L2.St → Prop) (hP : ∀ i G' H' σ', P i G' H' σ' → Ex G' H')
    (hW : ∀ i G' H' σ' T o, P i G' H' σ' → H' T = none → P i (upd G' T o) (upd H' T o) σ')
    (h0 : ∀ G' H', Wo G0 H0 ls G' H' cs → Ex G G' → P 0 G' H' σ)
    (hs : ∀ G1, Ex G G1 → ∀ i x v σ' G' H', (xs.zip ys)[i]? = some x → Ex G1 G' → P i G' H' σ' → (rP R S).r G' v x → g v σ' H' fun σ2 H2 => tu { D with nx := fun σ' H' => ∃ G', Ex G1 G' ∧ P (i + 1) G' H' σ', ct := fun σ' H' => ∃ G', Ex G1 G' ∧ P (i + 1) G' H' σ', bk := tz D } σ2 H2)
    (hd : ∀ σ' G' H', Ex G G' → P (xs.zip ys).length G' H' σ' → tz D σ' H') : tSeq (tFor (RZ.iZipA K ta) g tu) tz D σ H :=
  h _ hm H w.ex (Ex.refl _) _ fun vs H1 G1 u r => by
    obtain ⟨v, ws, rfl, r1, v2, ws2, rfl, r2, rfl⟩ := r
    obtain ⟨a, us, rfl, a2, a3⟩ := r1
    obtain ⟨b, us2, rfl, b2, b3⟩ := r2
    refine ⟨a, b, us, us2, rfl, .inr ⟨.inl (rd_up u.gh a2), .inl (rd_up u.gh b2), for_zipU (K := K) (xs := us) (ys := us2) (D := { D with nx := tz D }) (fun i σ' H' => ∃ G', Ex G1 G' ∧ P i G' H' σ') ⟨G1, Ex.refl _, h0 G1 H1 (w.up u) u.gg⟩ ?_ ?_ ?_⟩⟩
    · rintro i σ' H' ⟨G', e, p⟩
      exact ⟨.inl (rd_up (hP _ _ _ _ p) (rd_up e a2)), .inl (rd_up (hP _ _ _ _ p) (rd_up e b2))⟩
    · rintro i y z T σ' H' hy hz ⟨G', e, p⟩ hT
      obtain ⟨x, hx, rx⟩ := pr_get' a3 hy
      obtain ⟨x2, hx2, rx2⟩ := pr_get' b3 hz
      have e1 : Ex G' (upd G' T (.tup [y, z])) := Ex.new (fresh_back (hP _ _ _ _ p) hT)
      refine hs G1 u.gg i (x, x2) (.ref T) σ' (upd G' T (.tup [y, z])) (upd H' T (.tup [y, z])) ?_ (e.trans e1) (hW _ _ _ _ _ _ p hT) ⟨T, y, z, rfl, upd_same, R.mono (e.trans e1) rx, S.mono (e.trans e1) rx2⟩
      rw [List.getElem?_zip_eq_some]
      exact ⟨hx, hx2⟩
    · rintro σ' H' ⟨G', e, p⟩
      rw [a3.length, b3.length] at p
      exact hd σ' G' H' (u.gg.trans e) (by rw [List.length_zip]; exact p)
/-! displays of lists, sums of lists, opened -/
def eK (v : V) : TE := fun _ H Q => Q v H
theorem e_K {v : V} {x : α} (h : R.r G v x) : E (eK v) σ G W R (some x) := fun z hz H e e' Q q => by
  cases hz
  exact q v H G (Up.refl e) h
theorem o_lst {Q : VK} (h : ta σ H fun vs H1 => tLst (tK vs) σ H1 Q) : tLst ta σ H Q := h
theorem c_lstN {vs : List V} {xs : List α} {Q : VK} (w : Wo G0 H0 ls G H cs) (hp : Paired (R.r G) vs xs) (hn : xs.length < 100000) (k : ∀ v H2 G2, Wo G0 H0 ls G2 H2 cs → Ex G G2 → (rL R).r G2 v xs → Q v H2) : tLst (tK vs) σ H Q := by
  refine ⟨sz_of (by rw [hp.length]; exact Nat.le_of_lt hn), fun p hp' => k _ _ _ (w.up (Up.lay w.ex hp')) (Ex.new (fresh_back w.ex hp')) ⟨p, vs, rfl, upd_same, Paired.mapP hp fun _ _ => R.mono (Ex.new (fresh_back w.ex hp'))⟩⟩
theorem c_opL {γ : Type} {T : Rep γ} {r : R2} {f : α → β → Option (List γ)} {v u : V} {x : α} {y : β} {z : List γ} {Q : VK} (hr : RRL r R S T f) (w : Wo G0 H0 ls G H cs) (hv : R.r G v x) (hw : S.r G u y) (hz : f x y = some z)
    (k : ∀ v H2 G2, Wo G0 H0 ls G2 H2 cs → Ex G G2 → (rL T).r G2 v z → Q v H2) : r v u H Q := by
  have := c_e (σ := []) (te := tOp r (eK v) (eK u)) (Q := Q) w (EL.e (el_op hr (e_K hv) (e_K hw))) (show (some x >>= fun x => some y >>= fun y => f x y) = some z from hz) k
  exact this
end
end Sim

/-! an object called: x(..), x of an own class with __call__ -/
namespace PySem.W
open PySem PySem.Spec PySem.Calls PyProof.Rows
end PySem.W
namespace L2
open PySem PySem.Spec PyProof.Rows
section
variable {X : Cx} {CX : CXT} {k i : Nat} {f C : Addr} {fd : FuncData} {ps : List Str} {sp : Sp} {E : St → XK} {x : Str} {p pos : Pos} {e : Expr} {es : List Expr} {t : TA}
end
end L2

set_option maxHeartbeats 4000000
/-! own classes: an __init__ whose first statement is super().__init__(..), over an own class's __init__ -/
namespace Sim
open PySem PySem.Spec PyProof.Rows L2 PySem.W PySem.Calls NdefX
section
variable {CX : CXT} {P : Program} {w : World} {K : PySem.W.Frag} {mg : Str → Option Value} {base : Heap} {N ps psg : List Str} {F : NF} {C D f g : Addr} {fd fdg : FuncData} {k : Nat} {sp spg : Sp} {e : Expr} {es : List Expr} {rest : List Stmt} {p0 p1 p2 p3 p4 : Pos} {pl : Sem Bool}
end
end Sim

/-! askers: objects whose field `asks` holds a list that is changed; that list is a cell of the caller -/
namespace Sim
open PySem L2 Evl
section
variable {K : PySem.W.Frag} {C : Addr} {σ : L2.St} {G0 H0 G H G2 H2 W : Hp} {ls : List Addr} {cs : Cs} {l : Addr} {ta : TA} {te : TE} {X : XK} {α β κ ι : Type} {R : Rep α} {S : Rep β} {T : Rep α} {B : Rep κ} {A : AR ι} {D : Ends} {tz : TS} {ns : List Str}
end
end Sim

/-! the hook with an __init__ that calls super().__init__ of an own class -/
namespace Sim
section
open PySem PySem.Spec PyProof.Rows L2 PySem.W PySem.Calls NdefX
end
open PySem PySem.Spec PyProof.Rows L2 Evl
section
variable {fa : List He.Fa} {fn : List He.DefD} {es : List (PySem.W.Frag → Bool)} {xs : List XcD} {gs : List GeD} {sp : List SpD} {file : Str} {K : PySem.W.Frag} {mg : Str → Option Value}
end
end Sim

/-! askers: calls that read the lent list and may raise; loops over a lent list that an expression gives -/
namespace Sim
open PySem L2 Evl
section
variable {K : PySem.W.Frag} {C : Addr} {σ : L2.St} {G0 H0 G H G2 H2 W : Hp} {ls : List Addr} {cs : Cs} {l : Addr} {ta : TA} {X : XK} {te to tl : TE} {α β κ ι γ : Type} {R : Rep α} {S : Rep β} {T : Rep γ} {B : Rep κ} {A : AR ι} {D : Ends} {tz tu : TS} {g : TG} {ns : List Str} {fl : α → List Pd}
/-! ### tests, opened -/
end
end Sim

/-! askers handed to defs; parts of mixed data -/
namespace Sim
open PySem L2 Evl
section
variable {K : PySem.W.Frag} {C : Addr} {σ : L2.St} {G0 H0 G H G2 H2 W : Hp} {ls : List Addr} {cs : Cs} {l : Addr} {ta : TA} {X : XK} {te to tl : TE} {α β κ ι γ : Type} {R : Rep α} {S : Rep β} {T : Rep γ} {B : Rep κ} {A : AR ι} {D : Ends} {tz tu : TS}
/-! mixed data -/
end
end Sim

/-! a field written again -/
namespace Sim
open PySem L2 Evl
section
variable {K : PySem.W.Frag} {C : Addr} {σ : L2.St} {G0 H0 G H : Hp} {ls : List Addr} {cs : Cs} {l : Addr} {te : TE} {β : Type} {S : Rep β} {D : Ends} {tz : TS} {ns : List Str}
end
end Sim

/-! cells of any kind, lent to a def that only reads them -/
namespace Sim
open PySem L2 Evl
section
variable {σ : L2.St} {G0 H0 G H G1 H1 W : Hp} {ls : List Addr} {cs : Cs} {l : Addr} {cp0 : CP} {te : TE} {α β : Type} {R : Rep α} {S : Rep β} {cp : β → CP}
variable {K : PySem.W.Frag} {C : Addr} {ta : TA} {X : XK} {κ ι δ γ : Type} {A : AR ι} {B : Rep κ} {D : Ends} {tz : TS} {ns : List Str}
/-! dict(d), d a dict -/
end
end Sim

/-! TableAsker: an __init__ with a default; arguments read at the heap itself -/
namespace Sim
open PySem PySem.Spec PyProof.Rows L2 Evl
section
variable {K : PySem.W.Frag} {C : Addr} {σ : L2.St} {G0 H0 G H G2 H2 W : Hp} {ls : List Addr} {cs : Cs} {l : Addr} {ta tb tc : TE} {td : TE} {X : XK} {α β δ κ ι : Type} {R : Rep ι} {S : Rep β} {S2 : Rep δ} {B : Rep κ} {D : Ends} {tz : TS} {ns : List Str}
end
end Sim

/-! a comprehension whose test changes cells -/
namespace Sim
open PySem L2 Evl
section
variable {K : PySem.W.Frag} {σ : L2.St} {G0 H0 G H : Hp} {ls : List Addr} {cs : Cs} {tl te : TE} {tt : TT} {α γ : Type} {R : Rep α} {T : Rep γ} {D : Ends} {tz : TS}
end
end Sim
namespace Sim
open PySem L2 Evl
section
variable {K : PySem.W.Frag} {σ : L2.St} {G0 H0 G H : Hp} {ls : List Addr} {cs : Cs} {l : Addr} {α κ : Type} [DecidableEq κ] {kf : κ → Key} {R : Rep α} {Q : VK}
end
end Sim

/-! functions made by a lambda; their captured cells laid in the heap as known things -/
namespace LamF
open PySem PySem.Spec PyProof.Rows L2 LamX NdefX
/-- cells laid, taken out -/
def layH (cs : List (Addr × Obj)) (H : Hp) : Hp := fun a => match cs.lookup a with
  | some o => some (CelO o)
  | none => H a
section
variable {cs : List (Addr × Obj)} {H H' H0 : Hp} {a : Addr} {o : Obj}
theorem unlay_out (h : cs.lookup a = none) : unlayH cs H a = H a := by unfold unlayH; rw [h]
/-- these cells stand in h, none of them a frame's -/
structure Stand (fs : List Addr) (cs : List (Addr × Obj)) (h : Heap) : Prop where
  at_ : ∀ c o, cs.lookup c = some o → h.get? c = some o
  cel : ∀ c o, cs.lookup c = some o → ∃ v, o.data = .cell v
  nf : ∀ c o, cs.lookup c = some o → c ∉ fs
end
section
variable {P : Program} {w : World} {cs : List (Addr × Obj)} {H H' H0 H1 : Hp} {h h' B : Heap} {fs : List Addr}
end
/-- what may leave a def, told with or without the cells -/
structure CXlay (CXT0 : CXT) (P : Program) (w : World) : Prop where
  un : ∀ {outer : List Env} {H : Hp} {s s' : Shared} {E : XK} {e : Value} {cs : List (Addr × Obj)}, Stand (frs outer) cs s.heap → (∀ c o, cs.lookup c = some o → H c = some (CelO o)) → CXT0 outer H s E e s' → CXT0 outer (unlayH cs H) s (fun c d H' => E c d (layH cs H')) e s'
  ly : ∀ {outer : List Env} {H : Hp} {s s' : Shared} {E : XK} {e : Value} {cs : List (Addr × Obj)}, Stand (frs outer) cs s.heap → (∀ c o, cs.lookup c = some o → H c = none) → CXT0 outer H s (fun c d H' => E c d (layH cs H')) e s' → CXT0 outer (layH cs H) s E e s'
section
variable {P : Program} {w : World} {CX : CXT} {outer : List Env} {H : Hp} {s s' : Shared} {Q : VK} {E : XK} {cs : List (Addr × Obj)}
end
end LamF

/-! lambdas: made, called, handed over -/
namespace LamF
open PySem PySem.Spec PyProof.Rows L2 LamX NdefX
abbrev LF.nf (F : LF) : NF := ⟨"<lambda>", F.qual, F.params, [], F.scope, F.cl, F.c⟩
/-- what the making of a lambda leaves -/
structure Lm (H H1 : Hp) (P f : Addr) (F : LF) (ps0 ps : Array Value) : Prop where
  nf : H f = none
  src : H F.c = none ∨ ∃ pos, codeAmong pos ps0.toList = some (.ref F.c)
  old : ∀ (pos : Pos) (cv : Value), codeAmong pos ps.toList = some cv → codeAmong pos ps0.toList = some cv ∨ cv = .ref F.c
  at_ : H1 f = some (FnL f F)
  co : H1 F.c = some (CodeO F.c F.qual)
  tb : H1 P = some (.tbl ps)
  cd : Cds H1 F.qual ps
  ex : ∀ b o, b ≠ P → H b = some o → H1 b = some o
  nw : ∀ b, H1 b ≠ none → H b = none → b = f ∨ b = F.c
section
variable {X : Cx} {pins : List (Addr × Obj)} {σ : L2.St} {H : Hp} {s : Shared}
end
/-! ### a call with the own cells of these names laid -/
structure LaidBy (X : Cx) (fr : List Str) (σ : L2.St) (H : Hp) (cs : List (Addr × Obj)) : Prop where
  inj : ∀ x y c, X.env.cells.lookup x = some c → X.env.cells.lookup y = some c → x = y
  nn : ∀ c o, cs.lookup c = some o → H c = none
  at_ : ∀ y ∈ fr, ∃ c o u, X.env.cells.lookup y = some c ∧ cs.lookup c = some o ∧ o.data = .cell u ∧ ∀ (i : Nat) (v : V), X.N[i]? = some y → σ[i]? = some (some v) → Vis X.env.scope y → ∃ u', u = some u' ∧ RelV v u'
section
variable {X : Cx} {pins : List (Addr × Obj)} {σ : L2.St} {H : Hp} {s : Shared} {fr : List Str}
end
section
variable {X : Cx} {pins : List (Addr × Obj)} {σ : L2.St} {H : Hp} {s : Shared} {fr : List Str} {cs : List (Addr × Obj)}
end
section
variable {X : Cx} {CX : CXT} {k : Nat} {f : Addr} {fd : FuncData} {ps : List Str} {sp : Sp} {E : L2.St → XK} {x : Str} {p pos : Pos} {e : Expr} {es : List Expr} {t : TA} {fr : List Str}
end
end LamF

/-! functions made by a lambda: called; handed back by a def -/
namespace LamF
open PySem PySem.Spec PyProof.Rows L2 LamX NdefX
section
variable {H : Hp} {f : Addr} {F : LF} {fr : List Str} {us : List V}
end
section
variable {CX : CXT} {P : Program} {w : World} {K : PySem.W.Frag} {mg : Str → Option Value} {base : Heap} {N ps fr psg : List Str} {F : LF} {f g : Addr} {fdg : FuncData} {k : Nat} {spg : Sp} {x : Str} {e : Expr} {es : List Expr} {p0 pos : Pos} {js : List Nat} {us : List V}
end
/-! ### x(..), x a local name that holds something that can be called -/
section
variable {X : Cx} {CX : CXT} {k i : Nat} {E : L2.St → XK} {x : Str} {p pos : Pos} {e : Expr} {es : List Expr} {t : TA}
end
end LamF

/-! a def that hands back a lambda; defs whose code object is told -/
namespace LamF
open PySem PySem.Spec PyProof.Rows L2 LamX NdefX
section
variable {P : Program} {w : World} {K : PySem.W.Frag} {mg : Str → Option Value} {base : Heap} {x qual : Str} {params : Arguments} {body : List Stmt} {scope : Scope} {f : Addr} {fd : FuncData} {CX : CXT} {N ps : List Str} {k : Nat} {sp : Sp}
/-- what such a def promises: the function made, its captured names' values -/
structure LmC (H H1 : Hp) (P fl : Addr) (F : LF) (ps0 ps : Array Value) : Prop where
  nf : H fl = none
  src : H F.c = none ∨ ∃ pos, codeAmong pos ps0.toList = some (.ref F.c)
  old : ∀ (pos : Pos) (cv : Value), codeAmong pos ps.toList = some cv → codeAmong pos ps0.toList = some cv ∨ cv = .ref F.c
  tb : H1 P = some (.tbl ps)
  cd : Cds H1 F.qual ps
  ex : ∀ b o, b ≠ P → H b = some o → H1 b = some o
  ceN : ∀ y c, F.cl.lookup y = some c → H c = none
end
end LamF

/-! things that are asked: functions and objects called with a name; what they change is a state -/
namespace Sim
open PySem PySem.Spec PyProof.Rows L2 Evl LamX LamF NdefX
/-! ### asked -/
section
variable (P : Program) (w : World) (K : PySem.W.Frag) (mg : Str → Option Value) (base : Heap) (k : Nat)
end
section
variable {P : Program} {w : World} {K : PySem.W.Frag} {mg : Str → Option Value} {base : Heap} {k kk : Nat} {κ : Type} {ci : κ → Cs}
variable {G0 H0 G H G2 H2 : Hp} {ls : List Addr} {cs : Cs} {f : Addr} {X : Cx} {σ : L2.St} {i : Nat} {CX : CXT}
end
/-! ### defs that ask -/
section
variable (P : Program) (w : World) (K : PySem.W.Frag) (mg : Str → Option Value) (base : Heap) (k : Nat)
end
/-! ### a function made by a lambda and handed over at once -/
/-- what stands below a heap without the laid cells -/
class Dn {α : Type} (R : Rep α) : Prop where
  dn : ∀ {G : Hp} {cs : List (Addr × Obj)} {v : V} {x : α}, (∀ c o, cs.lookup c = some o → G c = some (CelO o)) → R.r G v x → R.r (unlayH cs G) v x
theorem dn_at {G : Hp} {cs : List (Addr × Obj)} {a : Addr} {o : HO} (hl : ∀ c o, cs.lookup c = some o → G c = some (CelO o)) (n : ∀ o', o ≠ CelO o') (h : G a = some o) : unlayH cs G a = some o := by
  cases q : cs.lookup a with
  | none => rw [unlay_out q]; exact h
  | some o' => rw [hl a o' q] at h; exact absurd (Option.some.inj h).symm (n o')
instance : Dn rI := ⟨fun _ h => h⟩
instance : Dn rS := ⟨fun _ h => h⟩
instance : Dn rB := ⟨fun _ h => h⟩
instance : Dn rU := ⟨fun _ h => h⟩
instance : Dn rA := ⟨fun _ h => h⟩
instance {α β : Type} {R : Rep α} {S : Rep β} [Dn R] [Dn S] : Dn (rP R S) := ⟨fun hl ⟨a, x, y, h1, h2, h3, h4⟩ => ⟨a, x, y, h1, dn_at hl (fun _ z => by cases z) h2, Dn.dn hl h3, Dn.dn hl h4⟩⟩
instance {α : Type} {R : Rep α} [Dn R] : Dn (rL R) := ⟨fun hl ⟨a, vs, h1, h2, h3⟩ => ⟨a, vs, h1, dn_at hl (fun _ z => by cases z) h2, Paired.mapP h3 fun _ _ => Dn.dn hl⟩⟩
instance {α : Type} {R : Rep α} [Dn R] : Dn (rT R) := ⟨fun hl ⟨a, vs, h1, h2, h3⟩ => ⟨a, vs, h1, h2.elim (fun h2 => .inl (dn_at hl (fun _ z => by cases z) h2)) fun ⟨o, h2⟩ => .inr ⟨o, dn_at hl (fun _ z => by cases z) h2⟩, Paired.mapP h3 fun _ _ => Dn.dn hl⟩⟩
section
variable {G0 H0 G H G2 H2 : Hp} {ls : List Addr} {cs : Cs} {cels : List (Addr × Obj)}
end
section
variable {G0 H0 G H H1 : Hp} {ls : List Addr} {cs : Cs} {Pt fl : Addr} {F : LF} {ps0 ps : Array Value} {j : Nat} {q : Str}
end
end Sim

/-! x = f(.., lambda ..): the function asks a list of the def's own -/
namespace Sim
open PySem PySem.Spec PyProof.Rows L2 Evl LamX LamF NdefX
section
variable {X : Cx} {kk : Nat} {σ : L2.St} {G0 H0 G H : Hp} {ls : List Addr} {cs : Cs} {ta : TA} {ι α γ : Type} {A : AR ι} {R : Rep γ} {Ra : Rep α} {D : Ends} {tz : TS}
end
end Sim

/-! calls that change cells at any places; the tail of the cells; lambdas handed over, printed by gen.py -/
namespace Sim
open PySem PySem.Spec PyProof.Rows L2 Evl LamX LamF NdefX
section
variable {σ : L2.St} {G0 H0 G H G2 H2 : Hp} {ls : List Addr} {cs : Cs}
/-! ### the tail -/
variable {P : Program} {w : World} {K : PySem.W.Frag} {mg : Str → Option Value} {base : Heap} {k : Nat} {κ : Type} {ci : κ → Cs} {f : Addr}
end
end Sim

/-! the hook with tables of code objects; the law's end with tables -/
namespace Sim
open PySem PySem.Spec PyProof.Rows L2 Evl LamX LamF NdefX
def TbD.cel (K : PySem.W.Frag) (d : TbD) : Addr × CP := (tabOf K (He.fAd K d.at_), cTab d.q)
structure SaysT (fa : List He.Fa) (fn : List He.DefD) (ex : List (PySem.W.Frag → Bool)) (xs : List XcD) (gs : List GeD) (sp : List SpD) (tf : List TbD) (file : Str) (h : Heap) (K : PySem.W.Frag) : Prop where
  s : SaysZ fa fn ex xs gs sp file K
  hd : ∀ p ∈ tf, PySem.W.codeHdIn K (p.c K).1 (p.c K).2 = true
  out : ∀ p ∈ tf, K.lookup (p.c K).2 = none
  nd : (tf.map fun p => (p.c K).2).Nodup
  empty : ∀ p ∈ tf, h.get? (p.c K).2 = some { cls := .none, data := .fields #[] }
end Sim

/-! a for over a list that is a cell and stays as it is; and in a test that changes cells -/
namespace Sim
open PySem L2 Evl
section
variable {K : PySem.W.Frag} {σ : L2.St} {G0 H0 G H G2 H2 : Hp} {ls : List Addr} {cs : Cs} {l : Addr} {cp cp' : CP} {tu tz : TS} {t u : TT} {g : TG} {D : Ends} {α : Type} {R : Rep α}
end
end Sim

/-! sides: values that are called with what is asked -/
namespace LamF
open PySem PySem.Spec PyProof.Rows L2 LamX NdefX
section
variable {X : Cx} {CX : CXT} {k : Nat} {pins : List (Addr × Obj)} {σ : L2.St} {H : Hp} {s : Shared} {a C dx : Addr} {fs : List (Str × V)} {v : V} {A : Around} {E : Value → Shared → Prop}
end
end LamF
namespace Sim
open PySem PySem.Spec PyProof.Rows L2 Evl LamX LamF NdefX
/-! ### an object with an attribute -/
/-! ### sides -/
section
variable (P : Program) (w : World) (K : PySem.W.Frag) (mg : Str → Option Value) (base : Heap) (j : Nat)
end
section
variable {P : Program} {w : World} {K : PySem.W.Frag} {mg : Str → Option Value} {base : Heap} {j k kk : Nat} {κ ω : Type} {ci : κ → Cs} {G0 H0 G H G2 H2 : Hp} {ls : List Addr} {cs : Cs} {f fk : Addr} {rO : Rep ω} {σ : L2.St}
variable {sem : ∀ {κ : Type}, (κ → Str → Option ((Xn ⊕ Int) × κ)) → ω → κ → Option ((Xn ⊕ Int) × κ)}
end
end Sim

/-! what sides are: objects, lambdas, defs; things that are asked: objects, lambdas -/
namespace Sim
open PySem PySem.Spec PyProof.Rows L2 Evl LamX LamF NdefX
section
variable {P : Program} {w : World} {K : PySem.W.Frag} {mg : Str → Option Value} {base : Heap} {j k kk : Nat} {κ ω : Type} {ci : κ → Cs} {G0 H0 G H G2 H2 : Hp} {ls : List Addr} {cs : Cs} {f fk a C f0 : Addr} {rO : Rep ω} {σ : L2.St} {fd : FuncData} {ps : List Str}
end
section
variable {X : Cx} {kk : Nat} {σ : L2.St} {G0 H0 G H : Hp} {ls : List Addr} {cs : Cs} {ta : TA} {ι α γ : Type} {A : AR ι} {R : Rep γ} {Ra : Rep α} {D : Ends} {tz : TS}
end
end Sim

/-! methods whose arguments change cells; a call that hands on what is asked and may raise -/
namespace Sim
open PySem PySem.Spec PyProof.Rows L2 Evl LamX LamF NdefX
section
variable {P : Program} {w : World} {K : PySem.W.Frag} {mg : Str → Option Value} {base : Heap} {j k kk : Nat} {κ ω α β : Type} {ci : κ → Cs} {G0 H0 G H G2 H2 W : Hp} {ls : List Addr} {cs : Cs} {f fk a C f0 : Addr} {rO : Rep ω} {σ : L2.St} {fd : FuncData} {ps ns : List Str} {to : TE} {ta : TA}
theorem SideOk.congr {sem sem' : ∀ {κ : Type}, (κ → Str → Option ((Xn ⊕ Int) × κ)) → ω → κ → Option ((Xn ⊕ Int) × κ)} (h : SideOk P w K mg base j rO k G f (fun a => sem a)) (e : ∀ {κ : Type} (a : κ → Str → Option ((Xn ⊕ Int) × κ)) (o : ω) (s : κ), sem' a o s = sem a o s) : SideOk P w K mg base j rO k G f (fun a => sem' a) :=
  ⟨h.cb, h.ok.imp fun vs H Q E ⟨κ, ci, ask, G, fk, o, s, r, s', a1, a2, a3, a4, a5, a6, a7⟩ => ⟨κ, ci, ask, G, fk, o, s, r, s', a1, a2, a3, a4, a5, by rw [← a6]; exact (e ask o s).symm, a7⟩⟩
/-- another reading of the same value -/
theorem e_cv {te : TE} {R : Rep α} {S : Rep β} {m : Option α} {c : α → β} (h : E te σ G W R m) (hc : ∀ {G : Hp} {v : V} {x : α}, R.r G v x → S.r G v (c x)) : E te σ G W S (m >>= fun x => some (c x)) := fun z hz H e e' Q q => by
  obtain ⟨x, hx, hz⟩ := bindS hz
  cases hz
  exact h x hx H e e' _ fun v H2 G2 u r => q v H2 G2 u (hc r)
end
end Sim

/-! a | b of two own classes with the same method -/
namespace PySem.W
open PySem PySem.Spec PyProof.Rows PySem.Calls
variable {prog : Program} {w : World} {A : Around} {E : Value → Shared → Prop} {s : Shared} {K : Frag} {x C D L f g : Addr} {h₀ : Heap} {m : Str → Option Value} {ox : Obj} {od : Option Obj}
end PySem.W
namespace L2
open PySem PySem.Spec PyProof.Rows
structure OpOk (K : PySem.W.Frag) (C D : Addr) (nm : String) (f : Addr) : Prop where
  sc : PySem.W.selfFirst K C = true
  at_ : PySem.W.findIn K (.ref C) (PySem.dunder nm) = some (some (.ref f))
  fn : PySem.W.isFn K (.ref f) = true
  two : C = D ∨ (PySem.W.selfFirst K D = true ∧ PySem.W.findIn K (.ref C) (dunderR nm) = some none ∧ (∃ g, PySem.W.findIn K (.ref D) (PySem.dunder nm) = some (some (.ref g))) ∧ PySem.W.findIn K (.ref D) (dunderR nm) = some none ∧ PySem.W.subIn K (.ref D) (.ref C) = some false)
section
variable {X : Cx} {CX : CXT} {k : Nat} {f C : Addr} {fd : FuncData} {ps : List Str} {sp : Sp} {pins : List (Addr × Obj)} {σ : St} {H : Hp} {s : Shared} {ta tb : TE}
end
end L2
namespace Sim
open PySem PySem.Spec PyProof.Rows L2 Evl LamX LamF NdefX
end Sim

/-! reversed; values that are an int or a text -/
namespace Sim
open PySem PySem.Spec PyProof.Rows L2 Evl
section
variable {K : PySem.W.Frag} {σ : L2.St} {G0 H0 G H G2 H2 W : Hp} {ls : List Addr} {cs : Cs} {ta : TA} {te : TE} {α β : Type} {R : Rep α} {D : Ends} {tu tz : TS} {g : TG}
end
end Sim

/-! a def that hands back a lambda: its function, told of the data heap -/
namespace Sim
open PySem PySem.Spec PyProof.Rows L2 Evl LamX LamF NdefX
section
variable {P : Program} {w : World} {K : PySem.W.Frag} {mg : Str → Option Value} {base : Heap} {CX : CXT} {k j : Nat} {f Pt : Addr} {fd : FuncData} {ps fr : List Str} {q : Str} {lp : Arguments} {lb : Expr} {lsc : Scope} {ws : List V → List V} {tb : Cs}
end
end Sim

/-! askers asked where nothing is raised; their cell at any place -/
namespace Sim
open PySem PySem.Spec PyProof.Rows L2 Evl LamX LamF NdefX
section
variable {P : Program} {w : World} {K : PySem.W.Frag} {mg : Str → Option Value} {base : Heap} {k : Nat} {κ : Type} {ci : κ → Cs} {G0 H0 G H G2 H2 Gq Hq : Hp} {ls : List Addr} {cs csq : Cs} {fk : Addr} {σ : L2.St}
end
end Sim

/-! a lambda whose body asks its own parameter -/
namespace LamF
open PySem PySem.Spec PyProof.Rows L2 LamX NdefX
section
variable {CX : CXT} {P : Program} {w : World} {K : PySem.W.Frag} {mg : Str → Option Value} {base : Heap} {N ps fr : List Str} {F : LF} {f : Addr} {k i : Nat} {x : Str} {e : Expr} {es : List Expr} {p pos : Pos} {us : List V}
end
end LamF

/-! what asks in a lambda's body -/
namespace Sim
open PySem PySem.Spec PyProof.Rows L2 Evl LamX LamF NdefX
section
variable {P : Program} {w : World} {K : PySem.W.Frag} {mg : Str → Option Value} {base : Heap} {N ps fr : List Str} {F : LF} {f fk : Addr} {k i jn : Nat} {us : List V} {G G2 H H2 : Hp} {κ : Type} {ci : κ → Cs} {σ : L2.St}
end
end Sim

/-! a def called at the slots, opened; a global name as data -/
namespace Sim
open PySem PySem.Spec PyProof.Rows L2 Evl
section
variable {σ : L2.St} {G W H : Hp} {α : Type} {R : Rep α}
end
section
variable {K : PySem.W.Frag} {C : Addr} {σ : L2.St} {G0 H0 G H : Hp} {ls : List Addr} {cs : Cs} {X : XK} {α β δ κ ι : Type} {R : Rep ι} {S : Rep β} {S2 : Rep δ} {B : Rep κ} {ns : List Str}
end
end Sim

set_option maxHeartbeats 2000000
/-! in: data in a list, own objects in a list; dicts compared; tuples of several parts -/
namespace GQ
open PySem PySem.SeqAt
open AutoSeq1 (wpAny_loadPart')
open MeetsSeq MeetsSeq2 MeetsSeq3 SeqRoads2
section
variable {prog : Program} {w : World} {A : Around} {R : Result → Shared → Prop}
end
section
variable {prog : Program} {w : World} {A : Around} {E : Value → Shared → Prop} {s : Shared}
end
end GQ
namespace L2
open PySem PySem.Spec PyProof.Rows SlX
section
variable {X : Cx} {k : Nat} {f C : Addr} {fd : FuncData} {ps : List Str} {sp : Sp} {pins : List (Addr × Obj)} {σ : St} {H : Hp} {s : Shared}
end
end L2

set_option maxHeartbeats 2000000
/-! the same, told by mirrors -/
namespace L2
open PySem PySem.Spec PyProof.Rows SlX
end L2

set_option maxHeartbeats 2000000
namespace Sim
open PySem PySem.Spec PyProof.Rows L2 Evl SlX
section
variable {K : PySem.W.Frag} {C : Addr} {σ : L2.St} {G0 H0 G H G2 H2 W Gn Wn : Hp} {ls : List Addr} {cs : Cs} {l : Addr} {ta tb tc tl te ti tk : TE} {tt : TT} {α β δ κ ι γ : Type} {R : Rep α} {S : Rep β} {T : Rep γ} {A : AR ι}
/-! ### what a value stands for is one thing -/
/-! ### x in xs of own objects -/
/-! ### x in xs of data -/
/-! ### dicts of whole numbers compared -/
/-! ### tuples of several parts -/
def rTup (A : AR ι) : Rep ι := ⟨fun H v i => ∃ a vs, v = .ref a ∧ H a = some (.tup vs) ∧ A.r H vs i, fun e ⟨a, vs, h1, h2, h3⟩ => ⟨a, vs, h1, e _ _ h2, A.mono e h3⟩⟩
theorem e_tupN {ta : TA} {m : Option ι} (h : EA ta σ G W A m) (hl : ∀ {G : Hp} {vs : List V} {i : ι}, A.r G vs i → vs.length ≤ 1000) : E (tTup ta) σ G W (rTup A) m := fun x hx H e e' Q q => by
  refine h x hx H e e' _ fun vs H1 G1 u1 r1 => ?_
  exact ⟨sz_of (Nat.le_trans (hl r1) (by decide)), fun p hp => q _ _ _ (u1.trans (Up.lay u1.gh hp)) ⟨p, vs, rfl, upd_same, A.mono (Ex.new (fresh_back u1.gh hp)) r1⟩⟩
theorem e_prj {k : Nat} {m : Option ι} {pr : ι → α} (h : E te σ G W (rTup A) m) (hp : ∀ {G : Hp} {vs : List V} {i : ι}, A.r G vs i → ∃ v, vs[k]? = some v ∧ R.r G v (pr i)) (hk : k < 1000 := by decide) : E (tOp (rIxT K) te (tC (.int (k : Int)))) σ G W R (m >>= fun i => some (pr i)) := fun z hz H e e' Q q => by
  obtain ⟨x, hx, hz⟩ := bindS hz
  cases hz
  refine h x hx H e e' _ fun v H1 G1 u1 r1 => ?_
  obtain ⟨a, vs, rfl, h2, h3⟩ := r1
  obtain ⟨y, hy, ry⟩ := hp h3
  have hl : k < vs.length := (List.getElem?_eq_some_iff.mp hy).1
  refine ⟨a, vs, (k : Int), y, rfl, rfl, Or.inl (Or.inl (u1.gh _ _ h2)), ?_, q y H1 G1 u1 ry⟩
  have : ixN vs.length (k : Int) = some k := by
    unfold ixN
    simp
    omega
  show (ixN vs.length (k : Int)).bind (fun j => vs[j]?) = some y
  rw [this]
  exact hy
theorem nnN_ : (rTup A).NN := fun ⟨a, _, h, _⟩ => by rw [h]; simp
/-- parts as data -/
structure DtA (A : AR ι) (d : ι → List PyData) (n : Nat) : Prop where
  dp : ∀ {K : PySem.W.Frag} {H : Hp} {vs : List V} {x : ι}, A.r H vs x → DpAll K H vs (d x)
  lay : ∀ x, PyData.plainAll (d x) = true
  dep : ∀ x, PyData.depthAll (d x) ≤ n
  eq : ∀ x y, PyData.eqvAll (d x) (d y) = true ↔ x = y
/-! ### an item of a list cell -/
/-! ### {k: v for k in ks} -/
end
end Sim

/-! what a call gives is new: lists of dicts that are cleared later -/
namespace Sim
open PySem PySem.Spec PyProof.Rows L2 Evl
theorem nnN {ι : Type} {A : AR ι} : (rTup A).NN := nnN_
section
variable {K : PySem.W.Frag} {σ : L2.St} {G0 H0 G H G2 H2 W Gw Hw : Hp} {ls : List Addr} {cs cs0 : Cs} {l : Addr} {te : TE} {α β κ γ : Type} {R : Rep α} {S : Rep β} {D : Ends} {tz : TS}
def rNw (H0 : Hp) (R : Rep α) : Rep α := ⟨fun G v x => R.r G v x ∧ ∃ a, v = .ref a ∧ H0 a = none, fun e ⟨h, z⟩ => ⟨R.mono e h, z⟩⟩
theorem Wo.new0 {p : Addr} (w : Wo G0 H0 ls G W cs) (np : W p = none) : H0 p = none := by
  cases z : H0 p with
  | none => rfl
  | some o => exact absurd np (w.f.st p (by rw [z]; simp))
/-- to an older data heap -/
theorem Wo.down (w0 : Wo G0 H0 ls Gw Hw cs0) (w : Wo G0 H0 ls G H cs) (e : Ex Gw G) (hc : ∀ c ∈ cs, ∀ o, c.2.p G o → c.2.p Gw o) : Wo G0 H0 ls Gw H cs :=
  ⟨⟨e.trans w.ex, (fun c h => by
    obtain ⟨h1, o, h2, h3⟩ := w.w.at_ c h
    refine ⟨?_, o, h2, hc c h o h3⟩
    cases z : Gw c.1 with
    | none => rfl
    | some o2 => rw [e _ _ z] at h1; cases h1), w.w.nd⟩, ⟨w0.f.gg, w.f.fr, w0.f.nw, w.f.st⟩, w.lo⟩
theorem Wo.updN {a : Addr} {o : HO} (w : Wo G0 H0 ls G H cs) (hG : G a = none) (hc : ∀ c ∈ cs, c.1 ≠ a) (h0 : H0 a = none) : Wo G0 H0 ls G (upd H a o) cs :=
  ⟨⟨fun b u h => by
    rw [upd_ne (ne_of_none h hG)]; exact w.ex b u h, fun c h => by
    obtain ⟨h1, o2, h2, h3⟩ := w.w.at_ c h
    exact ⟨h1, o2, by rw [upd_ne (hc c h)]; exact h2, h3⟩, w.w.nd⟩, ⟨w.f.gg, fun b u h1 h2 => by
    rw [upd_ne (ne_of_none h1 h0)]; exact w.f.fr b u h1 h2, w.f.nw, fun b h => by
    by_cases z : b = a
    · rw [z, upd_same]; simp
    · rw [upd_ne z]; exact w.f.st b h⟩, w.lo⟩
theorem new_w (w0 : Wo G0 H0 ls Gw Hw cs) {a : Addr} (h : Hw a = none) : Gw a = none ∧ (∀ c ∈ cs, c.1 ≠ a) ∧ H0 a = none := by
  refine ⟨?_, fun c hc z => ?_, w0.new0 h⟩
  · cases z : Gw a with
    | none => rfl
    | some o => rw [w0.ex _ _ z] at h; cases h
  · obtain ⟨_, o, h2, _⟩ := w0.w.at_ c hc
    rw [z, h] at h2
    cases h2
theorem fix_ex : ∀ {cs : Cs}, (∀ c ∈ cs, G c.1 = none ∧ ∃ o, H c.1 = some o ∧ c.2.p G o) → ∃ cs', Fixed G cs cs' ∧ ∀ c ∈ cs', G c.1 = none ∧ ∃ o, H c.1 = some o ∧ c.2.p G o
  | [], _ => ⟨[], .nil, fun c hc => by cases hc⟩
  | c :: cs, h => by
    obtain ⟨cs', F, h'⟩ := fix_ex fun d hd => h d (List.mem_cons_of_mem _ hd)
    obtain ⟨h1, o, h2, h3⟩ := h c (List.mem_cons_self ..)
    refine ⟨(c.1, cEq o) :: cs', .cons ⟨rfl, o, rfl, h3⟩ F, fun d hd => ?_⟩
    rcases List.mem_cons.mp hd with rfl | hd
    · exact ⟨h1, o, h2, rfl⟩
    · exact h' d hd
theorem Wo.fixAll (w : Wo G0 H0 ls G H cs) : ∃ cs', Fixed G cs cs' ∧ Wo G0 H0 ls G H cs' := by
  obtain ⟨cs', F, h⟩ := fix_ex w.w.at_
  refine ⟨cs', F, ⟨w.w.ex, h, by rw [F.map]; exact w.w.nd⟩, w.f, fun c hc => ?_⟩
  have : c.1 ∈ cs.map (·.1) := by rw [← F.map]; exact List.mem_map_of_mem hc
  obtain ⟨d, hd, e⟩ := List.mem_map.mp this
  have := w.lo d hd
  rw [e] at this
  exact this
theorem unfix_at {cs cs' : Cs} (F : Fixed Gw cs cs') (e : Ex Gw G) : (∀ c ∈ cs', G c.1 = none ∧ ∃ o, H c.1 = some o ∧ c.2.p G o) → ∀ c ∈ cs, G c.1 = none ∧ ∃ o, H c.1 = some o ∧ c.2.p G o := by
  induction F with
  | nil => intro _ c hc; cases hc
  | @cons a b as bs h t ih =>
    intro hh c hc
    rcases List.mem_cons.mp hc with rfl | hc
    · obtain ⟨e1, o, e2, e3⟩ := h
      obtain ⟨k1, o', k2, k3⟩ := hh b (List.mem_cons_self ..)
      rw [e2] at k3
      have k3 : o' = o := k3
      subst k3
      rw [e1]
      exact ⟨k1, o', k2, c.2.mono e e3⟩
    · exact ih (fun d hd => hh d (List.mem_cons_of_mem _ hd)) c hc
theorem Wo.unfixAll {cs cs' : Cs} (w : Wo G0 H0 ls G H cs') (F : Fixed Gw cs cs') (e : Ex Gw G) : Wo G0 H0 ls G H cs := by
  refine ⟨⟨w.w.ex, unfix_at F e w.w.at_, by rw [← F.map]; exact w.w.nd⟩, w.f, fun c hc => ?_⟩
  have : c.1 ∈ cs'.map (·.1) := by rw [F.map]; exact List.mem_map_of_mem hc
  obtain ⟨d, hd, e2⟩ := List.mem_map.mp this
  have := w.lo d hd
  rw [e2] at this
  exact this
end
section
variable {K : PySem.W.Frag} {σ : L2.St} {G0 H0 G H G2 H2 W : Hp} {ls : List Addr} {cs : Cs} {ta : TA} {α ι : Type} {R : Rep α} {A : AR ι}
end
end Sim

set_option maxHeartbeats 2000000
/-! name = {k: v for ..}: the name is set before the block goes -/
namespace L2
open PySem PySem.Spec PyProof.Rows
open PySem.Calls
section
variable {X : Cx}
end
end L2
namespace Sim
open PySem PySem.Spec PyProof.Rows L2 Evl SlX
section
variable {K : PySem.W.Frag} {C : Addr} {α : Type} {R : Rep α}
end
end Sim

/-! the hook over any choice of addresses; addresses reached, found by marks in one number (no dedup of lists) -/
namespace Sim
open PySem PySem.Spec PyProof.Rows L2 Evl LamX LamF NdefX
end Sim

set_option maxHeartbeats 2000000
/-! a method with defaults, called with all its arguments -/
namespace Sim
open PySem PySem.Spec PyProof.Rows L2 Evl
end Sim

set_option maxHeartbeats 2000000
/-! cells read as data by a call, and taken out of the data again behind it: what the call gave does not lean on them -/
namespace Sim
open PySem PySem.Spec PyProof.Rows L2 Evl SlX
section
variable {D : List Addr} {W Z G G0 H0 H : Hp} {ls : List Addr} {cs : Cs} {σ : L2.St} {te : TE} {α β : Type} {R : Rep α} {S : Rep β} {κ : Type}
/-! ### kinds of values -/
theorem Off.pd {x : α} (h : Off D W Z R x) : OffP D W Z (Sim.pd R x) := fun G v hZ hG r => h G v hZ hG r
end
end Sim

set_option maxHeartbeats 2000000
/-! an object that changes, with a list of its own: made, called, read -/
namespace Sim
open PySem PySem.Spec PyProof.Rows L2 Evl SlX
section
variable {K : PySem.W.Frag} {C C2 : Addr} {σ : L2.St} {G0 H0 G H G2 H2 W : Hp} {ls : List Addr} {cs : Cs} {l p : Addr} {ta : TA} {te : TE} {X : XK} {α β κ ι ρ : Type} {R : Rep α} {S : Rep β} {B : Rep κ} {A : AR ι} {D : Ends} {tz : TS} {ns : List Str}
section
variable {i j : Nat} {ps : List Pd} {ys : List κ}
end
end
end Sim

set_option maxHeartbeats 2000000
/-! dicts of data compared; tuples that may be a def's default; an object made with its default -/
namespace L2
open PySem PySem.Spec PyProof.Rows SlX
section
variable {K : PySem.W.Frag} {H : Hp}
end
end L2
namespace Sim
open PySem PySem.Spec PyProof.Rows L2 Evl SlX
section
variable {K : PySem.W.Frag} {C : Addr} {σ : L2.St} {G0 H0 G H G2 H2 W : Hp} {ls : List Addr} {cs : Cs} {l p : Addr} {ta : TA} {te tl : TE} {X : XK} {α β κ ι ρ : Type} {R : Rep α} {S : Rep β} {B : Rep κ} {A : AR ι} {D : Ends} {tz : TS} {ns : List Str}
/-! ### dicts of data -/
/-! ### tuples that may stand among a def's defaults -/
/-! ### a method with its default left out -/
end
end Sim

set_option maxHeartbeats 2000000
/-! objects told by some of their attributes; an object with three new lists of texts (an outlook) -/
namespace Sim
open PySem PySem.Spec PyProof.Rows L2 Evl SlX
section
variable {K : PySem.W.Frag} {C : Addr} {σ : L2.St} {G0 H0 G H G2 H2 W Z : Hp} {D : List Addr} {ls : List Addr} {cs : Cs} {l p x : Addr} {ta : TA} {te to : TE} {X : XK} {α β γ κ ι ρ : Type} {R : Rep α} {S : Rep β} {T : Rep γ} {A : AR ι} {ns all nw : List Str} {fl : α → List (Str × Pd)}
/-! ### all cells become data -/
/-! ### the outlook's shape -/
section
variable {α0 α1 : Type} {S0 : Rep α0} {S1 : Rep α1} {g0 : β → α0} {g1 g2 : β → α1} {u1 u2 u3 : β → List Str} {N : Addr → Prop} {f : ι → Option β} {mi : Option ι}
end

theorem o_slots {t : TS} {E : Ends} {σ' : L2.St} (e : σ = σ') (h : t E σ' H) : t E σ H := by rw [e]; exact h
/-! ### a paper and a list of texts read as data -/
section
variable {q : Addr} {i j k : Nat} {C2 : Addr} {B : Rep κ} {ys : List κ} {xs : List Str} {ps : List Pd}
end
end
end Sim

set_option maxHeartbeats 4000000
/-! an __init__ whose first statement is super().__init__(..), with own captured names -/
namespace Sim
open PySem PySem.Spec PyProof.Rows L2 PySem.W PySem.Calls NdefX
structure NScopeC (N ps : List Str) (sc : Scope) : Prop where
  kind : sc.kind = .function
  co : sc.isCoroutine = false
  gen : sc.isGenerator = false
  nd : N.Nodup
  pre : N.take ps.length = ps
  par : ∀ x ∈ ps, sc.names.lookup x = some .local ∨ sc.names.lookup x = some .cell
  free : ∀ y ∈ sc.names, y.2 = .free → y.1 = ("__class__" : Str)
  nocls : ∀ y ∈ sc.names, y.1 = ("__class__" : Str) → y.2 ≠ .cell
section
variable {M : Model} {A : Around} {E : Value → Shared → Prop} {s₀ s : Shared} {m cm : Str → Option Value} {env : Env} {own : List (Str × Addr)}
end
section
variable {M : Model} {A : Around} {E : Value → Shared → Prop} {s : Shared}
end
section
variable {CX : CXT} {P : Program} {w : World} {K : Frag} {mg : Str → Option Value} {base : Heap} {N ps psg : List Str} {F : NF} {C D f g : Addr} {fd fdg : FuncData} {k : Nat} {sp spg : Sp} {e : Expr} {es : List Expr} {rest : List Stmt} {p0 p1 p2 p3 p4 : Pos} {pl : Sem Bool}
end
end Sim

set_option maxHeartbeats 2000000
/-! list(reversed(a list)) -/
namespace RT
open PySem PySem.Spec PyProof.Rows
section
variable {prog : Program} {w : World} {A : Around} {E : Value → Shared → Prop} {s : Shared}
end
section
variable {prog : Program} {w : World} {A : Around} {E : Value → Shared → Prop} {s : Shared}
end
end RT
namespace L2
open PySem PySem.Spec PyProof.Rows RT
section
variable {X : Cx}
end
end L2
namespace Sim
open PySem PySem.Spec PyProof.Rows L2 Evl SlX
section
variable {K : PySem.W.Frag} {σ : L2.St} {G H W : Hp} {te : TE} {α : Type} {R : Rep α}
end
end Sim

set_option maxHeartbeats 2000000
/-! a dict walked while it is locked; dicts read whether they are locked or not -/
namespace Sim
open PySem PySem.Spec PyProof.Rows L2 Evl SlX
section
variable {K : PySem.W.Frag} {C : Addr} {σ : L2.St} {G0 H0 G H G2 H2 W : Hp} {ls : List Addr} {cs : Cs} {l p a : Addr} {ta : TA} {te td ti tx : TE} {X : XK} {α β κ ι ρ : Type} {R : Rep α} {S : Rep β} {D : Ends} {tz : TS} {ns all : List Str} {kf : κ → Key} {od : Obj} {ws : List (Key × V)}
section
variable [DecidableEq κ]
end
/-! ### locking keeps what is known -/
end
end Sim

/-! a | b, a of an own class, b of one, too, or a function; pairs of classes; a lambda that asks -/
namespace PySem.W
open PySem PySem.Spec PyProof.Rows PySem.Calls
variable {prog : Program} {w : World} {A : Around} {E : Value → Shared → Prop} {s : Shared} {K : Frag} {x C L f : Addr} {h₀ : Heap} {m : Str → Option Value} {ox : Obj} {od : Option Obj} {T : String}
end PySem.W
namespace L2
open PySem PySem.Spec PyProof.Rows
structure OpFn (K : PySem.W.Frag) (C : Addr) (nm : String) (f : Addr) : Prop where
  sc : PySem.W.selfFirst K C = true
  at_ : PySem.W.findIn K (.ref C) (PySem.dunder nm) = some (some (.ref f))
  fn : PySem.W.isFn K (.ref f) = true
  nr : PySem.W.findIn K (.ref C) (dunderR nm) = some none
  t1 : PySem.W.findIn K (.type "function") (PySem.dunder nm) = some none
  t2 : PySem.W.findIn K (.type "function") (dunderR nm) = some none
  sub : PySem.W.subIn K (.type "function") (.ref C) = some false
section
variable {X : Cx} {CX : CXT} {k : Nat} {f C : Addr} {fd : FuncData} {ps : List Str} {sp : Sp} {pins : List (Addr × Obj)} {σ : St} {H : Hp} {s : Shared} {ta tb : TE}
end
end L2
namespace Sim
open PySem PySem.Spec PyProof.Rows L2 Evl LamX LamF NdefX
section
variable {δ γ : Type} {cn : List Str} {nm : String} {D : Str} {K : PySem.W.Frag} {S : Rep δ} {T : Rep γ} {ob : δ → Bool} {σ : L2.St} {G W : Hp} {ta tb te : TE} {ma mb m : Option δ}
end
/-! ### one of two kinds -/
/-! ### lambda ask: ask(nm), as a side -/
section
variable {P : Program} {w : World} {K : PySem.W.Frag} {mg : Str → Option Value} {base : Heap} {fr ps N : List Str} {f : Addr} {F : LF} {G : Hp}
end
end Sim

/-! a dict lent to a making; a reading that may raise where nothing is raised -/
namespace Sim
open PySem PySem.Spec PyProof.Rows L2 Evl LamX LamF NdefX
section
variable {σ : L2.St} {G0 H0 G H G1 H1 W : Hp} {ls : List Addr} {cs : Cs} {l : Addr} {cp0 : CP} {te : TE} {α β ι κ : Type} {R : Rep α} {cp : β → CP} {C : Addr} {A : AR ι} {ns : List Str} {K : PySem.W.Frag} {T : Rep β}
end
end Sim

/-! dict(x), x a list (or a plain tuple) of pairs -/
namespace L2
open PySem PySem.Spec PyProof.Rows
/-- an item: a tuple of a key and a value -/
def PairIn (K : PySem.W.Frag) (H : Hp) (t : V) (kv : Key × V) : Prop := ∃ b, t = .ref b ∧ SqT K H b [kV kv.1, kv.2]
def rDcT (K : PySem.W.Frag) : List V → Hp → VK → Prop := fun xs H Q => ∃ (a : Addr) (ts : List V) (kvs : List (Key × V)), xs = [.ref a] ∧ (SqL K H a ts ∨ ∃ o, o.dict = none ∧ H a = some (.frz o (.tup ts))) ∧ Paired (PairIn K H) ts kvs ∧ ∀ p, H p = none → Q (.ref p) (upd H p (.dK (mergeK [] kvs)))
section
variable {X : Cx} {pins : List (Addr × Obj)} {σ : St} {H : Hp} {s : Shared}
theorem pairs_ofT (I : Inv X pins σ H s) : ∀ {ts : List V} {kvs : List (Key × V)} {its : List Value}, Paired (PairIn X.K H) ts kvs → Vals ts its → ∃ (bs : List Addr) (ps : List (Value × Value)), its = bs.map (fun b => Value.ref b) ∧ bs.length = ps.length ∧ VV (kvs.map fun kv => (kV kv.1, kv.2)) ps ∧ ∀ (j : Nat) (k v : Value), ps[j]? = some (k, v) → ∃ b, bs[j]? = some b ∧ IsTup s.heap b #[k, v]
  | [], kvs, its, hp, hv => by
    cases hp
    cases hv
    exact ⟨[], [], rfl, rfl, .nil, fun j k v h => by simp at h⟩
  | t :: ts, kvs, its, hp, hv => by
    cases hp with
    | @cons _ kv _ kvs' h1 h2 =>
      cases hv with
      | @cons _ u _ us r1 r2 =>
        obtain ⟨b, rfl, hb⟩ := h1
        obtain ⟨bs, ps, e1, e2, e3, e4⟩ := pairs_ofT I h2 r2
        obtain ⟨ks, rk, tk, _⟩ := I.tuple hb
        cases r1
        cases rk with
        | @cons _ ku _ ks1 q1 q2 =>
          cases q2 with
          | @cons _ vu _ ks2 q3 q4 =>
            cases q4
            refine ⟨b :: bs, (ku, vu) :: ps, by rw [e1]; rfl, by rw [List.length_cons, List.length_cons, e2], .cons ⟨q1, q3⟩ e3, fun j k v h => ?_⟩
            cases j with
            | zero =>
              rw [List.getElem?_cons_zero] at h
              cases h
              exact ⟨b, rfl, tk⟩
            | succ j =>
              rw [List.getElem?_cons_succ] at h
              obtain ⟨b', h3, h4⟩ := e4 j k v h
              exact ⟨b', by rw [List.getElem?_cons_succ]; exact h3, h4⟩
theorem carries_have {P : Program} {w : World} : ∀ {ps : List (Value × Value)} {rs : List (Key × Value)}, Carries (mixKind P w) ps rs → PairsHave (mixKind P w) ps.length (PairRel ps) rs
  | [], [], _ => ⟨rfl, fun i k v h => by simp [PairRel] at h⟩
  | (k0, v0) :: ps, (k1, v1) :: rs, c => by
    obtain ⟨c1, rfl, c3⟩ := c
    obtain ⟨h1, h2⟩ := carries_have c3
    refine ⟨by rw [List.length_cons, List.length_cons, h1], fun i k v h => ?_⟩
    cases i with
    | zero =>
      have h : some (k0, v0) = some (k, v) := h
      cases h
      exact ⟨k1, rfl, c1⟩
    | succ i => exact h2 i k v h
theorem call_dictT (hcalm : X.calm = true) : CallR X (.type "dict") (rDcT X.K) := by
  intro pins s σ H xs us Q I r q
  obtain ⟨a, ts, kvs, ex, ha, hp, q⟩ := q
  subst ex
  obtain ⟨u, eu, rx⟩ := vals1 r
  subst eu
  cases rx
  have fin : ∀ (T : String) (its : List Value), Vals ts its → ts.length ≤ sizeLine → PlainSeq T s.heap a its.toArray →
      (∀ (Ts : Nat → Addr) (ps : List (Value × Value)), PairArg X.prog X.w T a (a :: (List.range ps.length).map Ts) [] ps.length (PairRel ps) (fun h => PlainSeq T h a its.toArray ∧ PairItems h its.toArray Ts ps)) →
      wpAny (model X.prog X.w) X.A (call (.type "dict") [.ref a]) (EP X pins σ Q) X.xe s := fun T its rv hz pl PA => by
    obtain ⟨bs, ps, e1, e2, e3, e4⟩ := pairs_ofT I hp rv
    obtain ⟨rs, c, rk⟩ := carries_of (P := X.prog) (w := X.w) e3
    have hl : its.length = ps.length := by rw [e1, List.length_map, e2]
    have hps : ps.length ≤ sizeLine := by rw [← hl, ← rv.length]; exact hz
    have hk : kvs.length = ps.length := by have := hp.length; rw [← hl, ← rv.length]; exact this.symm
    have hPI : PairItems s.heap its.toArray (fun j => (bs[j]?).getD 0) ps := by
      refine ⟨by simpa using hl, fun j k v h => ?_⟩
      obtain ⟨b, h3, h4⟩ := e4 j k v h
      refine ⟨?_, ?_⟩
      · rw [e1]
        simp [h3]
      · show PairAt s.heap ((bs[j]?).getD 0) k v
        rw [h3]
        exact .inl h4
    refine PySem.call_dict_pairs (knd := mixKind X.prog X.w) (PA (fun j => (bs[j]?).getD 0) ps) (I.ok.hd hcalm) ⟨pl, hPI⟩ (carries_have c) hps fun h' tk hd hkeep => ?_
    have hm : (s.heap.objs.size == sysModules) = false := beq_eq_false_iff_ne.mpr (Nat.ne_of_gt I.big)
    have hz2 : (mergeK [] kvs).length ≤ sizeLine := by
      have h1 := length_mergeK kvs []
      rw [List.length_nil] at h1
      omega
    exact ⟨.ref s.heap.objs.size, upd H s.heap.objs.size (.dK (mergeK [] kvs)), I.laid (t' := tk) (fun b u e => hkeep b u (by simp) e) (Nat.le_refl _)
      (show ObjOk X.prog X.w _ _ _ (.dK (mergeK [] kvs)) from ⟨hz2, hm, _, rk.merge .nil, hd⟩), rfl, q _ (I.hok.fresh (Nat.le_refl _))⟩
  rcases ha with ha | ⟨o, ho, ha⟩
  · obtain ⟨its, rv, pl, hz⟩ := I.list ha
    exact fin "list" its rv hz pl fun Ts ps => PairArg.list a its.toArray Ts ps
  · obtain ⟨h1, h2, its, rv, o', h3, h4, n, h5⟩ := I.hok a _ ha
    rw [h1] at h3
    cases h3
    exact fin "tuple" its rv h2 ⟨o, n, h1, h4, ho, h5⟩ fun Ts ps => PairArg.tuple a its.toArray Ts ps
end
end L2
namespace Sim
open PySem PySem.Spec PyProof.Rows L2 Evl
/-- the dict of a row of pairs: later ones win -/
def dictP {κ α : Type} [DecidableEq κ] (ys : List (κ × α)) : List (κ × α) := ys.foldl (fun d p => putM d p.1 p.2) []
section
variable {σ : L2.St} {G0 H0 G H W : Hp} {ls : List Addr} {cs : Cs} {l : Addr} {te : TE} {κ α : Type} [DecidableEq κ] {kf : κ → Key} {Sk : Rep κ} {R : Rep α} {K : PySem.W.Frag}
theorem pm_dictP (hj : Inj kf) : ∀ {kvs : List (Key × V)} {ys : List (κ × α)} {ws : List (Key × V)} {d : List (κ × α)}, Paired (fun (p : Key × V) (q : κ × α) => p.1 = kf q.1 ∧ R.r G p.2 q.2) kvs ys → Pm kf R G ws d → Pm kf R G (mergeK ws kvs) (ys.foldl (fun d p => putM d p.1 p.2) d)
  | [], ys, ws, d, h, h' => by
    cases h
    exact h'
  | kv :: kvs, ys, ws, d, h, h' => by
    cases h with
    | @cons _ q _ ys h1 h2 =>
      have := pm_put hj (k := q.1) h1.2 h'
      rw [← h1.1] at this
      show Pm kf R G (mergeK (putK ws kv.1 kv.2) kvs) (ys.foldl (fun d p => putM d p.1 p.2) (putM d q.1 q.2))
      exact pm_dictP hj h2 this
theorem pairs_rP (ky : KyR kf Sk) (e : Ex G H) : ∀ {vs : List V} {ys : List (κ × α)}, Paired ((rP Sk R).r G) vs ys → ∃ kvs : List (Key × V), Paired (PairIn K H) vs kvs ∧ Paired (fun (p : Key × V) (q : κ × α) => p.1 = kf q.1 ∧ R.r G p.2 q.2) kvs ys
  | [], ys, h => by
    cases h
    exact ⟨[], .nil, .nil⟩
  | v :: vs, ys, h => by
    cases h with
    | @cons _ q _ ys h1 h2 =>
      obtain ⟨kvs, k1, k2⟩ := pairs_rP ky e h2
      obtain ⟨a, x, y, rfl, h3, h4, h5⟩ := h1
      refine ⟨(kf q.1, y) :: kvs, .cons ⟨a, rfl, SqT.of (by rw [← ky.v h4]; exact e a _ h3)⟩ k1, .cons ⟨rfl, h5⟩ k2⟩
/-- dict(xs), xs a list of data -/
theorem ec_dictL2 {m : Option (List (κ × α))} (ky : KyR kf Sk) (hj : Inj kf) (h : E te σ G W (rL (rP Sk R)) m) : EC (tCB (rDcT K) (tCons te tNil)) σ G W (cM kf R) (m >>= fun ys => some (dictP ys)) := fun x hx H1 e e' Q q => by
  obtain ⟨ys, hy, hx⟩ := bindS hx
  cases hx
  refine h ys hy H1 e e' _ fun v H2 G2 u r => ?_
  obtain ⟨a, vs, rfl, k2, k3⟩ := r
  obtain ⟨kvs, k5, k6⟩ := pairs_rP (K := K) ky u.gh k3
  refine ⟨a, vs, kvs, rfl, .inl (.inl (.inl (u.gh a _ k2))), k5, fun p hp => ?_⟩
  have hp2 : G2 p = none := fresh_back u.gh hp
  refine q p _ G2 (fresh_back u.hh hp) (u.trans (up_new u.gh hp)) ⟨u.gh.trans (Ex.new hp), fun c hc => ?_, List.nodup_cons.mpr ⟨List.not_mem_nil, List.nodup_nil⟩⟩
  rw [List.mem_singleton.mp hc]
  exact ⟨hp2, _, upd_same, _, rfl, pm_dictP hj k6 .nil⟩
end
end Sim

/-! sides that are called with an asker whose list of asks is known -/
namespace Sim
open PySem PySem.Spec PyProof.Rows L2 Evl LamX LamF NdefX
section
variable (P : Program) (w : World) (K : PySem.W.Frag) (mg : Str → Option Value) (base : Heap) (j : Nat)
end
section
variable {P : Program} {w : World} {K : PySem.W.Frag} {mg : Str → Option Value} {base : Heap} {j k kk : Nat} {ω : Type} {G0 H0 G H G2 H2 : Hp} {ls : List Addr} {cs : Cs} {f f0 fk C la : Addr} {rO : Rep ω} {σ : L2.St} {fd : FuncData} {ps : List Str}
variable {sem : AskQ → ω → Ql → Option ((Xn ⊕ Int) × Ql)}
theorem SideOkq.congr {sem' : AskQ → ω → Ql → Option ((Xn ⊕ Int) × Ql)} (h : SideOkq P w K mg base j rO k G f sem) (e : ∀ (a : AskQ) (o : ω) (s : Ql), sem' a o s = sem a o s) : SideOkq P w K mg base j rO k G f sem' :=
  ⟨h.cb, h.ok.imp fun vs H Q E ⟨la, ask, G, fk, o, s, r, s', a1, a2, a3, a4, a5, a6, a7⟩ => ⟨la, ask, G, fk, o, s, r, s', a1, a2, a3, a4, a5, by rw [← a6]; exact (e ask o s).symm, a7⟩⟩
end
end Sim

/-! a comprehension that asks; the truth of a list -/
namespace Sim
open PySem PySem.Spec PyProof.Rows L2 Evl LamX LamF NdefX
section
variable {α γ κ : Type} {R : Rep α} {T : Rep γ} {K : PySem.W.Frag} {σ : L2.St} {G0 H0 G H W : Hp} {ls : List Addr} {cs : Cs} {tl te : TE} {j : Nat} {Q : VK}
end
end Sim

/-! a thing asked within a comprehension; slotted objects below laid cells -/
namespace LamF
open PySem PySem.Spec PyProof.Rows L2
end LamF
namespace Sim
open PySem PySem.Spec PyProof.Rows L2 Evl LamX LamF NdefX
section
variable {P : Program} {w : World} {K : PySem.W.Frag} {mg : Str → Option Value} {base : Heap} {σ : L2.St} {k : Nat} {G0 H0 G H G2 H2 : Hp} {ls : List Addr} {cs : Cs} {f : Addr}
end
instance {α : Type} {R : Rep α} [Dn R] : Dn (rO R) := ⟨fun {_ _ _ x} hl h => by
  cases x with
  | none => exact h
  | some x => exact Dn.dn (R := R) hl h⟩
end Sim

set_option maxHeartbeats 4000000
/-! super().m(..) at any place of an own class's def -/
namespace Sim
open PySem PySem.Spec PyProof.Rows L2 PySem.W PySem.Calls NdefX
/-- of an expression, statements: at this activation -/
structure PEz (X : Cx) (c : Code) (e : Expr) (t : TE) : Prop where
  run : ∀ (pins : List (Addr × Obj)) (s : Shared) (σ : L2.St) (H : Hp) (Q : VK), L2.Inv X pins σ H s → t σ H Q → _root_.PySem.wpAt (model X.prog X.w) X.A c (eval e X.env) (EP X pins σ Q) X.xe s
structure PSz (X : Cx) (c : Code) (st : List Stmt) (t : TS) : Prop where
  run : ∀ (pins : List (Addr × Obj)) (s : Shared) (σ : L2.St) (H : Hp) (D : Ends), L2.Inv X pins σ H s → t D σ H → _root_.PySem.wpAt (model X.prog X.w) X.A c (execs st X.env) (SP X pins D) X.xe s
section
variable {X : Cx} {c : Code} {st : Stmt} {rest : List Stmt} {t u : TS} {te : TE} {e : Expr}
end
section
variable {CX CX1 : CXT} {P : Program} {w : World} {K : Frag} {mg : Str → Option Value} {base : Heap} {N ps psg : List Str} {F : NF} {C D f g : Addr} {fd fdg : FuncData} {k : Nat} {sp spg : Sp} {e : Expr} {es : List Expr} {nm : Str} {p0 p1 p2 p3 : Pos} {pl : Sem Bool} {A : Around} {outer : List Env} {s0 : Shared} {H0 : Hp} {E : XK} {c : Code} {ta : TA}
end
end Sim

/-! list.extend by a list of data -/
namespace Sim
open PySem PySem.Spec PyProof.Rows L2 Evl
section
variable {σ : L2.St} {G0 H0 G H : Hp} {ls : List Addr} {cs : Cs} {l : Addr} {te : TE} {tz : TS} {D : Ends} {α : Type} {R : Rep α} {K : PySem.W.Frag}
end
end Sim

/-! an object made with a lent list and with effects in its arguments -/
namespace Sim
open PySem L2 Evl
section
variable {K : PySem.W.Frag} {C : Addr} {σ : L2.St} {G0 H0 G H : Hp} {ls : List Addr} {cs : Cs} {l : Addr} {X : XK} {Q : VK} {α ι κ : Type} {A : AR ι}
end
end Sim

/-! a tuple whose object is told (no dict of its own): tuple(list) makes one, dict(tuple) reads it -/
namespace L2
open PySem PySem.Spec PyProof.Rows
section
variable {X : Cx} {pins : List (Addr × Obj)} {σ : St} {H : Hp} {s : Shared}
def rTpD (K : PySem.W.Frag) : List V → Hp → VK → Prop := fun xs H Q => ∃ p ys, xs = [.ref p] ∧ SqL K H p ys ∧ ∀ l o, H l = none → o.dict = none → Q (.ref l) (upd H l (.frz o (.tup ys)))
theorem call_tupD : CallR X (.type "tuple") (rTpD X.K) := by
  intro pins s σ H xs us Q I r q
  obtain ⟨p, ys, rfl, hs, q⟩ := q
  obtain ⟨u, eu, rx⟩ := vals1 r
  subst eu
  cases rx
  obtain ⟨its, rv, pl, hz⟩ := I.list hs
  refine call_tuple_list pl.isList (fun h' hk => ?_) (by rw [List.size_toArray, ← rv.length]; exact hz)
  have I1 : Inv X pins σ H { s with heap := h' } := I.kept (t' := s.toks) hk
  have I2 : Inv X pins σ (upd H h'.objs.size (.frz { cls := .type "tuple", data := .seq its.toArray } (.tup ys))) { s with heap := h'.push { cls := .type "tuple", data := .seq its.toArray } } :=
    I1.laid (t' := s.toks) (fun b o e => Heap.get?_push_of_some _ e) (Nat.le_refl _) (show ObjOk X.prog X.w _ _ _ (.frz _ (.tup ys)) from ⟨Heap.get?_push_size _ rfl, hz, its, rv, IsTup.new _ _⟩)
  exact ⟨.ref h'.objs.size, upd H h'.objs.size (.frz { cls := .type "tuple", data := .seq its.toArray } (.tup ys)), I2, rfl, q _ _ (I1.hok.fresh (Nat.le_refl _)) rfl⟩
end
end L2
namespace Sim
open PySem PySem.Spec PyProof.Rows L2 Evl
section
variable {σ : L2.St} {G0 H0 G H W : Hp} {ls : List Addr} {cs : Cs} {l : Addr} {te : TE} {κ α : Type} [DecidableEq κ] {kf : κ → Key} {Sk : Rep κ} {R : Rep α} {K : PySem.W.Frag}
/-- a tuple, told -/
def rTd (R : Rep α) : Rep (List α) := ⟨fun H v xs => ∃ a vs o, v = .ref a ∧ H a = some (.frz o (.tup vs)) ∧ o.dict = none ∧ Paired (R.r H) vs xs, fun e ⟨a, vs, o, h1, h2, h3, h4⟩ => ⟨a, vs, o, h1, e _ _ h2, h3, Paired.mapP h4 fun _ _ => R.mono e⟩⟩
theorem rTd_t {v : V} {xs : List α} (h : (rTd R).r H v xs) : (rT R).r H v xs := by
  obtain ⟨a, vs, o, h1, h2, _, h3⟩ := h
  exact ⟨a, vs, h1, .inr ⟨o, h2⟩, h3⟩
theorem rc_tupD : RC (rTpD K) (aC (rL R) aN) (rTd R) (fun i => some i.1) := fun vs i z H G hv hz e Q q => by
  cases hz
  obtain ⟨v, ws, rfl, ⟨a, us, rfl, h2, h3⟩, rfl⟩ := hv
  exact ⟨a, us, rfl, Or.inl (Or.inl (e a _ h2)), fun l o hl ho => q _ _ _ (Up.lay e hl) ⟨l, us, o, rfl, upd_same, ho, Paired.mapP h3 fun _ _ => R.mono (Ex.new (fresh_back e hl))⟩⟩
/-- dict(xs), xs a told tuple of pairs -/
theorem ec_dictTd {m : Option (List (κ × α))} (ky : KyR kf Sk) (hj : Inj kf) (h : E te σ G W (rTd (rP Sk R)) m) : EC (tCB (rDcT K) (tCons te tNil)) σ G W (cM kf R) (m >>= fun ys => some (dictP ys)) := fun x hx H1 e e' Q q => by
  obtain ⟨ys, hy, hx⟩ := bindS hx
  cases hx
  refine h ys hy H1 e e' _ fun v H2 G2 u r => ?_
  obtain ⟨a, vs, o, rfl, k2, ko, k3⟩ := r
  obtain ⟨kvs, k5, k6⟩ := pairs_rP (K := K) ky u.gh k3
  refine ⟨a, vs, kvs, rfl, .inr ⟨o, ko, u.gh a _ k2⟩, k5, fun p hp => ?_⟩
  have hp2 : G2 p = none := fresh_back u.gh hp
  refine q p _ G2 (fresh_back u.hh hp) (u.trans (up_new u.gh hp)) ⟨u.gh.trans (Ex.new hp), fun c hc => ?_, List.nodup_cons.mpr ⟨List.not_mem_nil, List.nodup_nil⟩⟩
  rw [List.mem_singleton.mp hc]
  exact ⟨hp2, _, upd_same, _, rfl, pm_dictP hj k6 .nil⟩
end
end Sim

/-! a generator def called with keywords -/
namespace L2
open PySem PySem.Spec PyProof.Rows
section
variable {X : Cx} {k n : Nat} {f : Addr} {fd : FuncData} {ps ks : List Str} {sp : SpG} {E : XK} {x : Str} {p pos : Pos} {e : Expr} {es : List Expr} {kws : List Keyword} {t tk : TA} {g : List Value → List Value → List Value} {gV : List V → List V → List V}
end
end L2

/-! generators: if; the walk's lemmas; their promise -/
namespace L2
open PySem PySem.Spec PyProof.Rows GenW
end L2
namespace Sim
open PySem PySem.Spec PyProof.Rows L2 Evl
section
variable {K : PySem.W.Frag} {σ : L2.St} {G0 H0 G H G2 H2 W : Hp} {ls : List Addr} {cs : Cs} {l : Addr} {ta tb te tc : TE} {t : TT} {α β γ ι κ : Type} {R : Rep α} {S : Rep β} {A : AR ι} {D : GEnds} {ys : List V} {tu tv u : TGn}
theorem sz_lt {n : Nat} (h : sz n = true) : n < sizeLine := sz_l h
end
section
variable {K : PySem.W.Frag} {C : Addr} {σ : L2.St} {G0 H0 G H G2 H2 : Hp} {ls : List Addr} {cs : Cs} {X : XK} {α κ ι : Type} {A : AR ι} {B : Rep κ} {ns : List Str}
end
end Sim

/-! a != b of an own class that has __eq__ alone -/
namespace L2
open PySem PySem.Spec PyProof.Rows
section
variable {X : Cx} {k : Nat} {f C : Addr} {fd : FuncData} {ps : List Str} {sp : Sp}
end
end L2
namespace Sim
open PySem PySem.Spec PyProof.Rows L2 Evl
end Sim

/-! told tuples: read in one way, and they stay below laid cells -/
namespace Sim
open PySem PySem.Spec PyProof.Rows L2 Evl
instance {α : Type} {R : Rep α} [Dn R] : Dn (rTd R) := ⟨fun hl ⟨a, vs, o, h1, h2, ho, h3⟩ => ⟨a, vs, o, h1, dn_at hl (fun _ z => by cases z) h2, ho, Paired.mapP h3 fun _ _ => Dn.dn hl⟩⟩
end Sim

/-! a, b = x, y; a pair of new dicts that a call gave, cleared later -/
namespace Sim
open PySem PySem.Spec PyProof.Rows L2 Evl
section
variable {K : PySem.W.Frag} {σ : L2.St} {G0 H0 G H G2 H2 W Gw Hw : Hp} {ls : List Addr} {cs cs0 : Cs} {l : Addr} {ta : TA} {α β κ ι : Type} {R : Rep α} {S : Rep β} {A : AR ι} {D : Ends} {tz : TS}
/-- a, b = x, y -/
theorem x_par {i j : Nat} {x : α} {y : β} (w : Wo G0 H0 ls G H cs) (h : EA ta σ G H (aC R (aC S aN)) (some (x, y, ()))) (k : ∀ u v H2 G2, Wo G0 H0 ls G2 H2 cs → Ex G G2 → R.r G2 u x → S.r G2 v y → tz D ((σ.set i (some u)).set j (some v)) H2) :
    tSeq (tPar i j ta) tz D σ H := by
  refine h _ rfl H w.ex (Ex.refl _) _ fun vs H1 G1 u r => ?_
  obtain ⟨v1, _, rfl, r1, v2, _, rfl, r2, rfl⟩ := r
  exact ⟨v1, v2, rfl, k v1 v2 H1 G1 (w.up u) u.gg r1 r2⟩
/-- a def whose value is told with the heap it starts from -/
def PFw (A : AR ι) (R : Hp → Rep β) (f : ι → Option β) : Sp := fun vs H Q X => PF A (R H) f vs H Q X
theorem e_callw {R : Hp → Rep β} {f : ι → Option β} {m : Option ι} {X : XK} (hR : ∀ {H1 W : Hp}, (∀ a, H1 a = none → W a = none) → ∀ {G v x}, (R H1).r G v x → (R W).r G v x) (ha : EA ta σ G W A m) : E (tCall (PFw A R f) [] X ta) σ G W (R W) (m >>= f) := fun z hz H e e' Q q => by
  obtain ⟨i, hi, hz⟩ := bindS hz
  refine ha i hi H e e' _ fun vs H1 G1 u1 r1 => ?_
  rw [List.append_nil]
  have eW : ∀ a, H1 a = none → W a = none := fun a h => by
    cases z : W a with
    | none => rfl
    | some o => rw [u1.hh _ _ (e' _ _ z)] at h; cases h
  exact ⟨G1, i, z, u1.gh, r1, hz, fun v H2 G2 u2 r => q v H2 G2 (u1.trans u2) (hR eW r)⟩
/-- None, or a pair of new things -/
def rNwP (H0 : Hp) (R : Rep α) : Rep (Option (α × α)) := rO (rP (rNw H0 R) (rNw H0 R))
theorem nwP_up {H1 W : Hp} (h : ∀ a, H1 a = none → W a = none) {G : Hp} {v : V} {x : Option (α × α)} (r : (rNwP H1 R).r G v x) : (rNwP W R).r G v x := by
  cases x with
  | none => exact r
  | some p =>
    obtain ⟨a, y, z, h1, h2, ⟨r1, b, e1, n1⟩, ⟨r2, c, e2, n2⟩⟩ := r
    exact ⟨a, y, z, h1, h2, ⟨r1, b, e1, h b n1⟩, ⟨r2, c, e2, h c n2⟩⟩
theorem nwP_r {v : V} {x : Option (α × α)} (r : (rNwP H0 R).r G v x) : (rO (rP R R)).r G v x := by
  cases x with
  | none => exact r
  | some p =>
    obtain ⟨a, y, z, h1, h2, ⟨r1, _⟩, ⟨r2, _⟩⟩ := r
    exact ⟨a, y, z, h1, h2, r1, r2⟩
/-- told[0].clear(); told[1].clear() -/
theorem x_clrP {i : Nat} {kf : κ → Key} {v : V} {x : List (κ × α) × List (κ × α)} (w0 : Wo G0 H0 ls Gw Hw cs0) (w : Wo G0 H0 ls G H cs) (ec : cs.map (·.1) = cs0.map (·.1)) (e : Ex Gw G) (hcs : ∀ c ∈ cs, ∀ o, c.2.p G o → c.2.p Gw o) (ht : (rNwP Hw (rM kf R)).r G v (some x))
    (hi : σ[i]? = some (some v)) (k : ∀ H', Wo G0 H0 ls Gw H' cs → tz D σ H') :
    tSeq (tDrop (tBM0 K "dict" rDClear (tOp (rIxT K) (tVar i) (tC (.int 0))))) (tSeq (tDrop (tBM0 K "dict" rDClear (tOp (rIxT K) (tVar i) (tC (.int 1))))) tz) D σ H := by
  obtain ⟨a, y, z, rfl, h2, ⟨⟨p, ws, rfl, hp, _⟩, p2, ep, np⟩, ⟨⟨q, us, rfl, hq, _⟩, q2, eq, nq⟩⟩ := ht
  cases ep
  cases eq
  have w1 := Wo.down w0 w e hcs
  have nc : ∀ b, Hw b = none → Gw b = none ∧ (∀ c ∈ cs, c.1 ≠ b) ∧ H0 b = none := fun b hb => by
    obtain ⟨h1, h2, h3⟩ := new_w w0 hb
    refine ⟨h1, fun c hc z => ?_, h3⟩
    have : c.1 ∈ cs0.map (·.1) := by rw [← ec]; exact List.mem_map_of_mem hc
    obtain ⟨d, hd, e2⟩ := List.mem_map.mp this
    exact h2 d hd (e2.trans z)
  have ha := w.ex _ _ h2
  have hp := w.ex _ _ hp
  have hq := w.ex _ _ hq
  obtain ⟨n1, n2, n3⟩ := nc p np
  obtain ⟨m1, m2, m3⟩ := nc q nq
  have hap : a ≠ p := fun z => by rw [z, hp] at ha; cases ha
  have haq : a ≠ q := fun z => by rw [z, hq] at ha; cases ha
  refine ⟨.ref a, hi, a, _, 0, .ref p, rfl, rfl, Or.inl (Or.inl ha), rfl, Or.inr (Or.inr (Or.inl ⟨rfl, Or.inl ⟨_, hp⟩⟩)), p, ws, rfl, rfl, hp, ?_⟩
  have w2 := w1.updN n1 n2 n3 (o := .dK [])
  have ha2 : upd H p (.dK []) a = some (.tup [.ref p, .ref q]) := by rw [upd_ne hap]; exact ha
  by_cases hpq : q = p
  · subst hpq
    exact ⟨.ref a, hi, a, _, 1, .ref q, rfl, rfl, Or.inl (Or.inl ha2), rfl, Or.inr (Or.inr (Or.inl ⟨rfl, Or.inl ⟨_, upd_same⟩⟩)), q, [], rfl, rfl, upd_same, k _ (w2.updN m1 m2 m3)⟩
  · have hq2 : upd H p (.dK []) q = some (.dK us) := by rw [upd_ne hpq]; exact hq
    exact ⟨.ref a, hi, a, _, 1, .ref q, rfl, rfl, Or.inl (Or.inl ha2), rfl, Or.inr (Or.inr (Or.inl ⟨rfl, Or.inl ⟨_, hq2⟩⟩)), q, us, rfl, rfl, hq2, k _ (w2.updN m1 m2 m3)⟩
end
end Sim

set_option maxHeartbeats 40000000
set_option synthInstance.maxSize 4000
set_option synthInstance.maxHeartbeats 1000000
namespace My
open PySem PySem.Spec PyProof.Rows L2 Sim
theorem be1 {α β : Type} {x : Option α} {f : α → Option β} : (x >>= f) = Option.bind x f := Eq.trans (show (x >>= f) = Option.bind x f from rfl) (Eq.refl _)
theorem bs1 {α β : Type} {a : α} {f : α → Option β} : Option.bind (some a) f = f a := Eq.trans (Option.bind_some a f) (Eq.refl _)
theorem bifT {α : Type} {a b c : α} (h : (bif true then a else b) = c) : a = c := h
theorem bifF {α : Type} {a b c : α} (h : (bif false then a else b) = c) : b = c := h
theorem elimL {α β γ : Type} {f : α → γ} {g : β → γ} {a : α} {c : γ} (h : Sum.elim f g (Sum.inl a) = c) : f a = c := h
theorem ba1 {α β γ : Type} {x : Option α} {f : α → Option β} {g : β → Option γ} : Option.bind (Option.bind x f) g = Option.bind x fun y => Option.bind (f y) g := Option.bind_assoc ..
structure m_Order where
  f_above : (List (List Bool))
  f_joins : (List (List (Option Int)))
  f_meets : (List (List (Option Int)))
  f_members : (List Int)
  f_height : Int
deriving DecidableEq
abbrev ns_Order : List Str := ["_above", "_joins", "_meets", "_members", "_height"]
def fl_Order (K : PySem.W.Frag) (o : m_Order) : List Pd := [pd (rL (rL rB)) o.f_above, pd (rL (rL (rO rI))) o.f_joins, pd (rL (rL (rO rI))) o.f_meets, pd (rL rI) o.f_members, pd rI o.f_height]
abbrev r_Order (K : PySem.W.Frag) : Rep m_Order := rObj (He.ga K "Order") ns_Order (fl_Order K)
structure m_Record where
  name : Str
  asks : (List (Str × Int))
  result : Int
deriving DecidableEq
def fl_Record (K : PySem.W.Frag) (o : m_Record) : Ps := [(1, pd rS o.name), (0, pd (rTd (rP rS rI)) o.asks), (2, pd rI o.result)]
abbrev r_Record (K : PySem.W.Frag) : Rep m_Record := rSl (He.ga K "Record") (fl_Record K)
section
variable {w : World} {K : PySem.W.Frag} {mg : Str → Option Value} {base : Heap}
theorem fr_range (T : Tx K mg) : mg "range" = none := T.free 38 rfl
theorem fr_len (T : Tx K mg) : mg "len" = none := T.free 39 rfl
theorem fr_max (T : Tx K mg) : mg "max" = none := T.free 40 rfl
theorem fr_list (T : Tx K mg) : mg "list" = none := T.free 41 rfl
theorem fr_min (T : Tx K mg) : mg "min" = none := T.free 42 rfl
theorem fr_abs (T : Tx K mg) : mg "abs" = none := T.free 43 rfl
theorem fr_int (T : Tx K mg) : mg "int" = none := T.free 44 rfl
theorem fr_sorted (T : Tx K mg) : mg "sorted" = none := T.free 45 rfl
theorem fr_tuple (T : Tx K mg) : mg "tuple" = none := T.free 46 rfl
theorem fr_zip (T : Tx K mg) : mg "zip" = none := T.free 47 rfl
theorem fr_isinstance (T : Tx K mg) : mg "isinstance" = none := T.free 48 rfl
theorem fr_bool (T : Tx K mg) : mg "bool" = none := T.free 49 rfl
theorem fr_dict (T : Tx K mg) : mg "dict" = none := T.free 50 rfl
def m_closure_b1 (size0 : Int) (x34 : (Int × Int)) (s23 : (List Bool)) : Option (List Bool) :=
  (some true >>= fun a47 => (mulM x34.1 size0 >>= fun t46 => some (t46 + x34.2)) >>= fun i48 => setM s23 i48 a47 >>= fun cells_49 => some (cells_49))
def m_closure_b2 (size0 : Int) (x117 : Int) (s103 : (List (List Bool))) : Option (List (List Bool)) :=
  ((rngM 0 size0 >>= fun xs138 => mapS (fun x124 => (rngM 0 size0 >>= fun xs137 => mapS (fun x130 => (orO ((atI s103 x124 >>= fun t133 => atI t133 x130)) ((andO ((atI s103 x124 >>= fun t135 => atI t135 x117)) ((atI s103 x117 >>= fun t136 => atI t136 x130)))))) xs137)) xs138) >>= fun rows_139 => some (rows_139))
def m_closure (size0 : Int) (pairs0 : (List (Int × Int))) : Option (List (List Bool)) :=
  ((mulM size0 size0 >>= fun t8 => (rngM 0 t8 >>= fun xs7 => mapS (fun x4 => some false) xs7)) >>= fun cells_9 => (some pairs0 >>= fun xs18 => forS (m_closure_b1 size0) xs18 cells_9 >>= fun s23 => ((rngM 0 size0 >>= fun xs85 => mapS (fun x73 => (rngM 0 size0 >>= fun xs84 => mapS (fun x79 => (orO (some (x73 == x79)) (((mulM x73 size0 >>= fun t82 => some (t82 + x79)) >>= fun t83 => atI s23 t83)))) xs84)) xs85) >>= fun rows_86 => (some size0 >>= fun n96 => rngM 0 n96 >>= fun xs98 => forS (m_closure_b2 size0) xs98 rows_86 >>= fun s103 => (some s103 >>= fun a157 => some a157)))))
theorem sc_closure : FnScope ["size", "pairs", "cells", "rows", "m", "low", "high", "_", "a", "b"] ["size", "pairs"] (defScope s_closure) := ⟨rfl, rfl, rfl, by decide +kernel, rfl, by decide +kernel, by decide +kernel⟩
theorem ok_closure (T : Tx K mg) : Fk P w K mg base CX0 1 "closure" ["size", "pairs"] (PF (aC rI (aC (rL (rP rI rI)) aN)) (rL (rL rB)) (fun i => m_closure i.1 i.2.1)) := by
  obtain ⟨fd, F⟩ := T.def_ 7 rfl
  have nd := sc_closure.nd
  refine fk_mk T.toTx (x := "closure") (T.glo 14 rfl) F (fun _ _ _ _ _ _ us hl => match us, hl with | [_, _], _ => rfl) (F.ok sc_closure (fun vs H Q E h => ?_) (fun cdv A outer s H vs Q E hr h => ?_))
  · obtain ⟨G, ⟨size0, pairs0, ⟨⟩⟩, r, e0, ⟨vsize0, _, rfl, hsize0, vpairs0, _, rfl, hpairs0, rfl⟩, h, k⟩ := h
    rfl
  · obtain ⟨G, ⟨size0, pairs0, ⟨⟩⟩, r, e0, ⟨vsize0, _, rfl, hsize0, vpairs0, _, rfl, hpairs0, rfl⟩, h, k⟩ := h
    cases hsize0
    have w0 := Wo.start e0
    have h : m_closure size0 pairs0 = some r := h
    unfold m_closure at h
    refine ⟨_, PSs.nox (pss_cons (ps_set (i := 2) nd rfl (Or.inr rfl) (pe_lc (own := [("_", 7)]) (by rfl) nd (pi_range1 (by rfl) (fr_range T) (pa_cons (pe_op op_mul (pv 0) (pv 0)) pa_nil)) (blkOk_by (by kernel_rfl)) (fun _ _ _ _ _ => pg_name (i := 7) nd rfl (by first | exact Or.inl rfl | exact Or.inr rfl)) (fun _ _ _ _ _ => pts_nil) (fun _ _ _ _ _ => pe_bl))) (pss_cons (ps_for PassesOwn.never rfl (pi_list (pv 1)) (pg_tup (by rfl) (pgs_cons (pg_name (i := 5) nd rfl (by first | exact Or.inl rfl | exact Or.inr rfl)) (pgs_cons (pg_name (i := 6) nd rfl (by first | exact Or.inl rfl | exact Or.inr rfl)) pgs_nil))) (pss_cons (ps_asg pe_bl (pg_sub (pv 2) (pe_op op_add (pe_op op_mul (pv 5) (pv 0)) (pv 6)) set_list)) pss_nil)) (pss_cons (ps_set (i := 3) nd rfl (Or.inr rfl) (pe_lc (own := [("a", 8)]) (by rfl) nd (pi_range1 (by rfl) (fr_range T) (pa_cons (pv 0) pa_nil)) (blkOk_by (by kernel_rfl)) (fun _ _ _ _ _ => pg_name (i := 8) nd rfl (by first | exact Or.inl rfl | exact Or.inr rfl)) (fun _ _ _ _ _ => pts_nil) (fun _ _ _ _ _ => (pe_lc (own := [("b", 9)]) (by rfl) nd (pi_range1 (by rfl) (fr_range T) (pa_cons (pv 0) pa_nil)) (blkOk_by (by kernel_rfl)) (fun _ _ _ _ _ => pg_name (i := 9) nd rfl (by first | exact Or.inl rfl | exact Or.inr rfl)) (fun _ _ _ _ _ => pts_nil) (fun _ _ _ _ _ => (pe_or (pe_cmpR op_eq (pv 8) (pv 9) (nomark _)) (pe_one (pe_ix (r := rIxL K) ix_list (pv 2) (pe_op op_add (pe_op op_mul (pv 8) (pv 0)) (pv 9)) (fun _ _ => rfl))))))))) (pss_cons (ps_for PassesOwn.never rfl (pi_range1 (by rfl) (fr_range T) (pa_cons (pv 0) pa_nil)) (pg_name (i := 4) nd rfl (Or.inr rfl)) (pss_cons (ps_set (i := 3) nd rfl (Or.inr rfl) (pe_lc (own := [("a", 8)]) (by rfl) nd (pi_range1 (by rfl) (fr_range T) (pa_cons (pv 0) pa_nil)) (blkOk_by (by kernel_rfl)) (fun _ _ _ _ _ => pg_name (i := 8) nd rfl (by first | exact Or.inl rfl | exact Or.inr rfl)) (fun _ _ _ _ _ => pts_nil) (fun _ _ _ _ _ => (pe_lc (own := [("b", 9)]) (by rfl) nd (pi_range1 (by rfl) (fr_range T) (pa_cons (pv 0) pa_nil)) (blkOk_by (by kernel_rfl)) (fun _ _ _ _ _ => pg_name (i := 9) nd rfl (by first | exact Or.inl rfl | exact Or.inr rfl)) (fun _ _ _ _ _ => pts_nil) (fun _ _ _ _ _ => (pe_or (pe_ix (r := rIxL K) ix_list (pe_ix (r := rIxL K) ix_list (pv 3) (pv 8) (fun _ _ => rfl)) (pv 9) (fun _ _ => rfl)) (pe_one (pe_and (pe_ix (r := rIxL K) ix_list (pe_ix (r := rIxL K) ix_list (pv 3) (pv 8) (fun _ _ => rfl)) (pv 4) (fun _ _ => rfl)) (pe_one (pe_ix (r := rIxL K) ix_list (pe_ix (r := rIxL K) ix_list (pv 3) (pv 4) (fun _ _ => rfl)) (pv 9) (fun _ _ => rfl))))))))))) pss_nil)) (pss_cons (ps_ret (pv 3)) pss_nil))))), ?_⟩
    obtain ⟨cells_9, hx10, h⟩ := bindS h
    refine x_setL w0 (el_mapR (el_lcR (j := 7) (ea_cons (e_op rr_mul (e_var (R := rI) (x := size0) rfl rfl) (e_var (R := rI) (x := size0) rfl rfl)) ea_nil) (fun _ => rfl) (fun _ _ _ _ _ _ => et_yes) (fun x4 G5 W6 eG1 eW2 eX3 => e_bl))) (by first | (simp only [be1, bs1, ba1] at hx10 ⊢; exact hx10) | exact hx10) ?_
    intro p13 H11 G14 n15 w12 e16
    have h17 := Rep.mono _ e16 hpairs0
    obtain ⟨xs18, hx19, h⟩ := bindS h
    obtain ⟨t21, hx22, h⟩ := bindS h
    refine x_forL w12 (e_var (R := (rL (rP rI rI))) (x := pairs0) rfl h17) hx19 (fun i G' H' σ' => ∃ s23 : (List Bool), ∃ u24 : Option V, ∃ u25 : Option V, Wo G H [] G' H' [(p13, cL rB s23)] ∧ Evl.Ex G14 G' ∧ σ' = [some (V.int size0), some vpairs0, some (V.ref p13), none, none, u25, u24, none, none, none] ∧ forS (m_closure_b1 size0) (xs18.drop i) s23 = some t21) (fun _ _ _ _ ⟨_, _, _, w, _⟩ => w.ex) ?_ ?_ ?_
    · intro G' H' w' e'
      exact ⟨cells_9, (none), (none), w', e', rfl, hx22⟩
    · rintro G36 e37 i33 x34 v38 σ' G29 H32 hx35 e40 ⟨s23, u24, u25, w30, e31, rfl, hm27⟩ r39
      obtain ⟨q28, hb26, hm27⟩ := forS_at hx35 hm27
      have h41 := Rep.mono _ e31 h17
      refine g_pair (i := 5) (j := 6) r39 w30.ex ?_
      intro v42 v43 r44 r45
      cases r44
      cases r45
      unfold m_closure_b1 at hb26
      obtain ⟨a47, hx50, hb26⟩ := bindS hb26
      obtain ⟨i48, hx51, hb26⟩ := bindS hb26
      obtain ⟨cells_49, hx52, hb26⟩ := bindS hb26
      refine x_setIx (j := 0) w30 rfl rfl e_bl (by first | (simp only [be1, bs1, ba1] at hx50 ⊢; exact hx50) | exact hx50) (e_op rr_add (e_op rr_mul (e_var (R := rI) (x := x34.1) rfl rfl) (e_var (R := rI) (x := size0) rfl rfl)) (e_var (R := rI) (x := x34.2) rfl rfl)) (by first | (simp only [be1, bs1, ba1] at hx51 ⊢; exact hx51) | exact hx51) hx52 ?_
      intro H53 G54 w55 e56
      have h57 := Rep.mono _ e56 h41
      have w55 : Wo G H [] G54 H53 [(p13, cL rB cells_49)] := w55
      refine x_next ?_
      have hb26 : cells_49 = q28 := Option.some.inj hb26
      subst hb26
      exact ⟨G54, (e40.trans e56), cells_49, (some (V.int x34.2)), (some (V.int x34.1)), w55, (e31.trans e56), rfl, hm27⟩
    · rintro σ' G58 H61 e62 ⟨s23, u24, u25, w59, e60, rfl, hm27⟩
      have hm27 := forS_end hm27
      subst hm27
      have h64 := Rep.mono _ e60 h17
      obtain ⟨G65, w66, e67, h68⟩ := w59.freezeAt (i := 0) rfl n15
      have h69 := Rep.mono _ e67 h64
      have w66 : Wo G H [] G65 H61 [] := w66
      obtain ⟨rows_86, hx87, h⟩ := bindS h
      refine x_set w66 (EL.e (el_mapR (el_lcR (j := 8) (ea_cons (e_var (R := rI) (x := size0) rfl rfl) ea_nil) (fun _ => rfl) (fun _ _ _ _ _ _ => et_yes) (fun x73 G74 W75 eG70 eW71 eX72 => (EL.e (el_mapR (el_lcR (j := 9) (ea_cons (e_var (R := rI) (x := size0) rfl rfl) ea_nil) (fun _ => rfl) (fun _ _ _ _ _ _ => et_yes) (fun x79 G80 W81 eG76 eW77 eX78 => (e_orV (e_op rr_eqI (e_var (R := rI) (x := x73) rfl rfl) (e_var (R := rI) (x := x79) rfl rfl)) (e_op rr_ixL (e_var (R := (rL rB)) (x := s23) rfl (Rep.mono _ eG76 (Rep.mono _ eG70 h68))) (e_op rr_add (e_op rr_mul (e_var (R := rI) (x := x73) rfl rfl) (e_var (R := rI) (x := size0) rfl rfl)) (e_var (R := rI) (x := x79) rfl rfl)))))))))))) (by first | (simp only [be1, bs1, ba1] at hx87 ⊢; exact hx87) | exact hx87) ?_
      intro v90 H88 G91 w89 e92 h93
      have h94 := Rep.mono _ e92 h69
      have h95 := Rep.mono _ e92 h68
      obtain ⟨n96, hx97, h⟩ := bindS h
      obtain ⟨xs98, hx99, h⟩ := bindS h
      obtain ⟨t101, hx102, h⟩ := bindS h
      refine x_forR w89 (ea_cons (Sim.E.is (e_var (R := rI) (x := size0) rfl rfl) hx97) ea_nil) rfl hx99 (fun i G' H' σ' => ∃ s103 : (List (List Bool)), ∃ v104 : V, ∃ u106 : Option V, ∃ u107 : Option V, ∃ u108 : Option V, Wo G H [] G' H' [] ∧ Evl.Ex G91 G' ∧ σ' = [some (V.int size0), some vpairs0, some (V.ref p13), some v104, u108, u25, u24, none, u106, u107] ∧ (rL (rL rB)).r G' v104 s103 ∧ forS (m_closure_b2 size0) (xs98.drop i) s103 = some t101) ?_ ?_ ?_
      · intro G' H' w' e'
        exact ⟨rows_86, v90, (none), (none), (none), w', e', rfl, (Rep.mono _ e' h93), hx102⟩
      · rintro i116 x117 σ' G112 H115 hx118 ⟨s103, v104, u106, u107, u108, w113, e114, rfl, h105, hm110⟩
        obtain ⟨q111, hb109, hm110⟩ := forS_at hx118 hm110
        have h119 := Rep.mono _ e114 h94
        have h120 := Rep.mono _ e114 h95
        refine g_name ?_
        unfold m_closure_b2 at hb109
        obtain ⟨rows_139, hx140, hb109⟩ := bindS hb109
        refine x_set w113 (EL.e (el_mapR (el_lcR (j := 8) (ea_cons (e_var (R := rI) (x := size0) rfl rfl) ea_nil) (fun _ => rfl) (fun _ _ _ _ _ _ => et_yes) (fun x124 G125 W126 eG121 eW122 eX123 => (EL.e (el_mapR (el_lcR (j := 9) (ea_cons (e_var (R := rI) (x := size0) rfl rfl) ea_nil) (fun _ => rfl) (fun _ _ _ _ _ _ => et_yes) (fun x130 G131 W132 eG127 eW128 eX129 => (e_orV (e_op rr_ixL (e_op rr_ixL (e_var (R := (rL (rL rB))) (x := s103) rfl (Rep.mono _ eG127 (Rep.mono _ eG121 h105))) (e_var (R := rI) (x := x124) rfl rfl)) (e_var (R := rI) (x := x130) rfl rfl)) (e_andV (e_op rr_ixL (e_op rr_ixL (e_var (R := (rL (rL rB))) (x := s103) rfl (Rep.mono _ eG127 (Rep.mono _ eG121 h105))) (e_var (R := rI) (x := x124) rfl rfl)) (e_var (R := rI) (x := x117) rfl rfl)) (e_op rr_ixL (e_op rr_ixL (e_var (R := (rL (rL rB))) (x := s103) rfl (Rep.mono _ eG127 (Rep.mono _ eG121 h105))) (e_var (R := rI) (x := x117) rfl rfl)) (e_var (R := rI) (x := x130) rfl rfl)))))))))))) (by first | (simp only [be1, bs1, ba1] at hx140 ⊢; exact hx140) | exact hx140) ?_
        intro v143 H141 G144 w142 e145 h146
        have h147 := Rep.mono _ e145 h119
        have h148 := Rep.mono _ e145 h120
        have h149 := Rep.mono _ e145 h105
        refine x_next ?_
        have hb109 : rows_139 = q111 := Option.some.inj hb109
        subst hb109
        exact ⟨G144, rows_139, v143, (u106), (u107), (some (V.int x117)), w142, (e114.trans e145), rfl, h146, hm110⟩
      · rintro σ' G150 H153 ⟨s103, v104, u106, u107, u108, w151, e152, rfl, h105, hm110⟩
        have hm110 := forS_end hm110
        subst hm110
        have h155 := Rep.mono _ e152 h94
        have h156 := Rep.mono _ e152 h95
        obtain ⟨a157, hx158, h⟩ := bindS h
        have h : a157 = r := Option.some.inj h
        subst h
        exact x_ret w151 (e_var (R := (rL (rL rB))) (x := s103) rfl h105) hx158 (fun v9 H9 G9 w9 e9 r9 => k v9 H9 G9 w9.upE r9)
def m_turned (rows0 : (List (List Bool))) : Option (List (List Bool)) :=
  ((rngM 0 (rows0.length : Int) >>= fun xs173 => mapS (fun x162 => (rngM 0 (rows0.length : Int) >>= fun xs172 => mapS (fun x168 => (atI rows0 x168 >>= fun t171 => atI t171 x162)) xs172)) xs173) >>= fun a174 => some a174)
theorem sc_turned : FnScope ["rows", "a", "b"] ["rows"] (defScope s_turned) := ⟨rfl, rfl, rfl, by decide +kernel, rfl, by decide +kernel, by decide +kernel⟩
theorem ok_turned (T : Tx K mg) : Fk P w K mg base CX0 1 "turned" ["rows"] (PF (aC (rL (rL rB)) aN) (rL (rL rB)) (fun i => m_turned i.1)) := by
  obtain ⟨fd, F⟩ := T.def_ 8 rfl
  have nd := sc_turned.nd
  refine fk_mk T.toTx (x := "turned") (T.glo 15 rfl) F (fun _ _ _ _ _ _ us hl => match us, hl with | [_], _ => rfl) (F.ok sc_turned (fun vs H Q E h => ?_) (fun cdv A outer s H vs Q E hr h => ?_))
  · obtain ⟨G, ⟨rows0, ⟨⟩⟩, r, e0, ⟨vrows0, _, rfl, hrows0, rfl⟩, h, k⟩ := h
    rfl
  · obtain ⟨G, ⟨rows0, ⟨⟩⟩, r, e0, ⟨vrows0, _, rfl, hrows0, rfl⟩, h, k⟩ := h
    have w0 := Wo.start e0
    have h : m_turned rows0 = some r := h
    unfold m_turned at h
    refine ⟨_, PSs.nox (pss_cons (ps_ret (pe_lc (own := [("a", 1)]) (by rfl) nd (pi_range1 (by rfl) (fr_range T) (pa_cons (pe_callB (r := rLn K) call_len_seq (by rfl) (fr_len T) (by decide +kernel) (pa_cons (pv 0) pa_nil)) pa_nil)) (blkOk_by (by kernel_rfl)) (fun _ _ _ _ _ => pg_name (i := 1) nd rfl (by first | exact Or.inl rfl | exact Or.inr rfl)) (fun _ _ _ _ _ => pts_nil) (fun _ _ _ _ _ => (pe_lc (own := [("b", 2)]) (by rfl) nd (pi_range1 (by rfl) (fr_range T) (pa_cons (pe_callB (r := rLn K) call_len_seq (by rfl) (fr_len T) (by decide +kernel) (pa_cons (pv 0) pa_nil)) pa_nil)) (blkOk_by (by kernel_rfl)) (fun _ _ _ _ _ => pg_name (i := 2) nd rfl (by first | exact Or.inl rfl | exact Or.inr rfl)) (fun _ _ _ _ _ => pts_nil) (fun _ _ _ _ _ => (pe_ix (r := rIxL K) ix_list (pe_ix (r := rIxL K) ix_list (pv 0) (pv 2) (fun _ _ => rfl)) (pv 1) (fun _ _ => rfl))))))) pss_nil), ?_⟩
    obtain ⟨a174, hx175, h⟩ := bindS h
    have h : a174 = r := Option.some.inj h
    subst h
    exact x_ret w0 (EL.e (el_mapR (el_lcR (j := 1) (ea_cons (e_cb rc_lenL (ea_cons (e_var (R := (rL (rL rB))) (x := rows0) rfl hrows0) ea_nil)) ea_nil) (fun _ => rfl) (fun _ _ _ _ _ _ => et_yes) (fun x162 G163 W164 eG159 eW160 eX161 => (EL.e (el_mapR (el_lcR (j := 2) (ea_cons (e_cb rc_lenL (ea_cons (e_var (R := (rL (rL rB))) (x := rows0) rfl (Rep.mono _ eG159 hrows0)) ea_nil)) ea_nil) (fun _ => rfl) (fun _ _ _ _ _ _ => et_yes) (fun x168 G169 W170 eG165 eW166 eX167 => (e_op rr_ixL (e_op rr_ixL (e_var (R := (rL (rL rB))) (x := rows0) rfl (Rep.mono _ eG165 (Rep.mono _ eG159 hrows0))) (e_var (R := rI) (x := x168) rfl rfl)) (e_var (R := rI) (x := x162) rfl rfl)))))))))) (by first | (simp only [be1, bs1, ba1] at hx175 ⊢; exact hx175) | exact hx175) (fun v9 H9 G9 w9 e9 r9 => k v9 H9 G9 w9.upE r9)
def m_least_above_b1 (rows0 : (List (List Bool))) (uppers_185 : (List Int)) (x210 : Int) (s199 : Unit) : Option (Stp Unit (Option Int)) :=
  (((lcS (fun x222 => (atI rows0 x210 >>= fun t227 => atI t227 x222)) (fun x222 => some x222) uppers_185 >>= fun t229 => some (t229.length : Int)) >>= fun t230 => some (t230 == (uppers_185.length : Int))) >>= fun b231 => bif b231 then (some (some x210) >>= fun a235 => some (Stp.rt a235)) else some (Stp.nx ()))
def m_least_above (rows0 : (List (List Bool))) (first0 : Int) (second0 : Int) : Option (Option Int) :=
  ((rngM 0 (rows0.length : Int) >>= fun xs184 => lcS (fun x179 => (andO ((atI rows0 first0 >>= fun t182 => atI t182 x179)) ((atI rows0 second0 >>= fun t183 => atI t183 x179)))) (fun x179 => some x179) xs184) >>= fun uppers_185 => (some uppers_185 >>= fun xs194 => forL (m_least_above_b1 rows0 uppers_185) xs194 () >>= Sum.elim (fun s199 => (some (none : (Option Int)) >>= fun a247 => some a247)) (fun r => some r)))
theorem sc_least_above : FnScope ["rows", "first", "second", "uppers", "found", "e"] ["rows", "first", "second"] (defScope s_least_above) := ⟨rfl, rfl, rfl, by decide +kernel, rfl, by decide +kernel, by decide +kernel⟩
theorem ok_least_above (T : Tx K mg) : Fk P w K mg base CX0 1 "least_above" ["rows", "first", "second"] (PF (aC (rL (rL rB)) (aC rI (aC rI aN))) (rO rI) (fun i => m_least_above i.1 i.2.1 i.2.2.1)) := by
  obtain ⟨fd, F⟩ := T.def_ 9 rfl
  have nd := sc_least_above.nd
  refine fk_mk T.toTx (x := "least_above") (T.glo 16 rfl) F (fun _ _ _ _ _ _ us hl => match us, hl with | [_, _, _], _ => rfl) (F.ok sc_least_above (fun vs H Q E h => ?_) (fun cdv A outer s H vs Q E hr h => ?_))
  · obtain ⟨G, ⟨rows0, first0, second0, ⟨⟩⟩, r, e0, ⟨vrows0, _, rfl, hrows0, vfirst0, _, rfl, hfirst0, vsecond0, _, rfl, hsecond0, rfl⟩, h, k⟩ := h
    rfl
  · obtain ⟨G, ⟨rows0, first0, second0, ⟨⟩⟩, r, e0, ⟨vrows0, _, rfl, hrows0, vfirst0, _, rfl, hfirst0, vsecond0, _, rfl, hsecond0, rfl⟩, h, k⟩ := h
    cases hfirst0
    cases hsecond0
    have w0 := Wo.start e0
    have h : m_least_above rows0 first0 second0 = some r := h
    unfold m_least_above at h
    refine ⟨_, PSs.nox (pss_cons (ps_setLc (i := 3) (own := [("e", 5)]) (by rfl) nd rfl rfl (sw_true rfl rfl rfl (by decide +kernel)) (pi_range1 (by rfl) (fr_range T) (pa_cons (pe_callB (r := rLn K) call_len_seq (by rfl) (fr_len T) (by decide +kernel) (pa_cons (pv 0) pa_nil)) pa_nil)) (blkOk_by (by kernel_rfl)) (fun _ _ _ _ _ => pg_name (i := 5) nd rfl (by first | exact Or.inl rfl | exact Or.inr rfl)) (fun _ _ _ _ _ => pts_one (PW.pt (pw_and (pt_val (pe_ix (r := rIxL K) ix_list (pe_ix (r := rIxL K) ix_list (pv 0) (pv 1) (fun _ _ => rfl)) (pv 5) (fun _ _ => rfl))) (pw_and1 (pt_val (pe_ix (r := rIxL K) ix_list (pe_ix (r := rIxL K) ix_list (pv 0) (pv 2) (fun _ _ => rfl)) (pv 5) (fun _ _ => rfl))))))) (fun _ _ _ _ _ => (pv 5))) (pss_cons (ps_for PassesOwn.never rfl (pi_list (pv 3)) (pg_name (i := 4) nd rfl (Or.inr rfl)) (pss_cons (ps_if (pt_cmpR op_eq (pe_callB (r := rLn K) call_len_seq (by rfl) (fr_len T) (by decide +kernel) (pa_cons (pe_lc (own := [("e", 5)]) (by rfl) nd (show L2.PI _ _ _ (iList K _) from pi_list (pv 3)) (blkOk_by (by kernel_rfl)) (fun _ _ _ _ _ => pg_name (i := 5) nd rfl (by first | exact Or.inl rfl | exact Or.inr rfl)) (fun _ _ _ _ _ => pts_one (pt_val (pe_ix (r := rIxL K) ix_list (pe_ix (r := rIxL K) ix_list (pv 0) (pv 4) (fun _ _ => rfl)) (pv 5) (fun _ _ => rfl)))) (fun _ _ _ _ _ => (pv 5))) pa_nil)) (pe_callB (r := rLn K) call_len_seq (by rfl) (fr_len T) (by decide +kernel) (pa_cons (pv 3) pa_nil)) (nomark _)) (pss_cons (ps_ret (pv 4)) pss_nil) pss_nil) pss_nil)) (pss_cons (ps_ret pe_non) pss_nil))), ?_⟩
    obtain ⟨uppers_185, hx186, h⟩ := bindS h
    refine x_set w0 (EL.e (el_lcR (j := 5) (ea_cons (e_cb rc_lenL (ea_cons (e_var (R := (rL (rL rB))) (x := rows0) rfl hrows0) ea_nil)) ea_nil) (fun _ => rfl) (fun x179 G180 W181 eG176 eW177 eX178 => (et_and (et_B (e_op rr_ixL (e_op rr_ixL (e_var (R := (rL (rL rB))) (x := rows0) rfl (Rep.mono _ eX178 (Rep.mono _ eG176 hrows0))) (e_var (R := rI) (x := first0) rfl rfl)) (e_var (R := rI) (x := x179) rfl rfl))) (et_B (e_op rr_ixL (e_op rr_ixL (e_var (R := (rL (rL rB))) (x := rows0) rfl (Rep.mono _ eX178 (Rep.mono _ eG176 hrows0))) (e_var (R := rI) (x := second0) rfl rfl)) (e_var (R := rI) (x := x179) rfl rfl))))) (fun x179 G180 W181 eG176 eW177 eX178 => (e_var (R := rI) (x := x179) rfl rfl)))) (by first | (simp only [be1, bs1, ba1] at hx186 ⊢; exact hx186) | exact hx186) ?_
    intro v189 H187 G190 w188 e191 h192
    have h193 := Rep.mono _ e191 hrows0
    obtain ⟨xs194, hx195, h⟩ := bindS h
    obtain ⟨t197, hx198, h⟩ := bindS h
    refine x_forL w188 (e_var (R := (rL rI)) (x := uppers_185) rfl h192) hx195 (fun i G' H' σ' => ∃ s199 : Unit, ∃ u200 : Option V, ∃ u201 : Option V, Wo G H [] G' H' [] ∧ Evl.Ex G190 G' ∧ σ' = [some vrows0, some (V.int first0), some (V.int second0), some v189, u201, u200] ∧ forL (m_least_above_b1 rows0 uppers_185) (xs194.drop i) s199 = some t197) (fun _ _ _ _ ⟨_, _, _, w, _⟩ => w.ex) ?_ ?_ ?_
    · intro G' H' w' e'
      exact ⟨(), (none), (none), w', e', rfl, hx198⟩
    · rintro G212 e213 i209 x210 v214 σ' G205 H208 hx211 e216 ⟨s199, u200, u201, w206, e207, rfl, hm203⟩ r215
      obtain ⟨q204, hb202, hm203⟩ := forL_at hx211 hm203
      have h217 := Rep.mono _ e207 h193
      have h218 := Rep.mono _ e207 h192
      refine g_name ?_
      cases r215
      unfold m_least_above_b1 at hb202
      obtain ⟨b231, hx232, hb202⟩ := bindS hb202
      refine x_if w206 (et_T (e_op rr_eqI (e_cb rc_lenL (ea_cons (EL.e (el_lcL (j := 5) (e_var (R := (rL rI)) (x := uppers_185) rfl (Rep.mono _ w206.ex h218)) (fun _ => rfl) (fun x222 v225 G223 W224 eG219 eW220 eX221 h226 => (et_B (e_op rr_ixL (e_op rr_ixL (e_var (R := (rL (rL rB))) (x := rows0) rfl (Rep.mono _ eX221 (Rep.mono _ eG219 (Rep.mono _ w206.ex h217)))) (e_var (R := rI) (x := x210) rfl rfl)) (e_var (R := rI) (x := x222) rfl (Rep.mono _ eX221 h226))))) (fun x222 v225 G223 W224 eG219 eW220 eX221 h226 => (e_var (R := rI) (x := x222) rfl h226)))) ea_nil)) (e_cb rc_lenL (ea_cons (e_var (R := (rL rI)) (x := uppers_185) rfl (Rep.mono _ w206.ex h218)) ea_nil)))) (by first | (simp only [be1, bs1, ba1] at hx232 ⊢; exact hx232) | exact hx232) ?_ ?_
      · intro hbb231 H233 w234
        subst hbb231
        have hb202 := bifT hb202
        obtain ⟨a235, hx236, hb202⟩ := bindS hb202
        have hb202 : some (Stp.rt a235) = some q204 := hb202
        cases hb202
        have hm203 : some (Sum.inr a235) = some t197 := hm203
        cases hm203
        have h : a235 = r := Option.some.inj h
        subst h
        exact x_ret w234 (e_some (e_var (R := rI) (x := x210) rfl rfl)) hx236 (fun v9 H9 G9 w9 e9 r9 => k v9 H9 G9 w9.upE r9)
      · intro hbb231 H237 w238
        subst hbb231
        have hb202 := bifF hb202
        refine x_next ?_
        refine x_next ?_
        have hb202 : Stp.nx () = q204 := Option.some.inj hb202
        subst hb202
        exact ⟨G205, (e216.trans (Evl.Ex.refl _)), (), (u200), (some (V.int x210)), w238, e207, rfl, hm203⟩
    · rintro σ' G239 H242 e243 ⟨s199, u200, u201, w240, e241, rfl, hm203⟩
      have hm203 := forL_end hm203
      subst hm203
      have h := elimL h
      have h245 := Rep.mono _ e241 h193
      have h246 := Rep.mono _ e241 h192
      obtain ⟨a247, hx248, h⟩ := bindS h
      have h : a247 = r := Option.some.inj h
      subst h
      exact x_ret w240 (e_none (R := rI)) hx248 (fun v9 H9 G9 w9 e9 r9 => k v9 H9 G9 w9.upE r9)
def m_bounds_table (rows0 : (List (List Bool))) : Option (List (List (Option Int))) :=
  (some (rows0.length : Int) >>= fun size_249 => ((rngM 0 size_249 >>= fun xs266 => mapS (fun x256 => (rngM 0 size_249 >>= fun xs265 => mapS (fun x262 => m_least_above rows0 x256 x262) xs265)) xs266) >>= fun a267 => some a267))
theorem sc_bounds_table : FnScope ["rows", "size", "a", "b"] ["rows"] (defScope s_bounds_table) := ⟨rfl, rfl, rfl, by decide +kernel, rfl, by decide +kernel, by decide +kernel⟩
theorem ok_bounds_table (T : Tx K mg) : Fk P w K mg base CX0 2 "bounds_table" ["rows"] (PF (aC (rL (rL rB)) aN) (rL (rL (rO rI))) (fun i => m_bounds_table i.1)) := by
  obtain ⟨fd_least_above, G_least_above, b_least_above, k_least_above, g_least_above⟩ := ok_least_above (w := w) (base := base) T
  obtain ⟨fd, F⟩ := T.def_ 10 rfl
  have nd := sc_bounds_table.nd
  refine fk_mk T.toTx (x := "bounds_table") (T.glo 17 rfl) F (fun _ _ _ _ _ _ us hl => match us, hl with | [_], _ => rfl) (F.ok sc_bounds_table (fun vs H Q E h => ?_) (fun cdv A outer s H vs Q E hr h => ?_))
  · obtain ⟨G, ⟨rows0, ⟨⟩⟩, r, e0, ⟨vrows0, _, rfl, hrows0, rfl⟩, h, k⟩ := h
    rfl
  · obtain ⟨G, ⟨rows0, ⟨⟩⟩, r, e0, ⟨vrows0, _, rfl, hrows0, rfl⟩, h, k⟩ := h
    have w0 := Wo.start e0
    have h : m_bounds_table rows0 = some r := h
    unfold m_bounds_table at h
    refine ⟨_, PSs.nox (pss_cons (ps_set (i := 1) nd rfl (Or.inr rfl) (pe_callB (r := rLn K) call_len_seq (by rfl) (fr_len T) (by decide +kernel) (pa_cons (pv 0) pa_nil))) (pss_cons (ps_ret (pe_lc (own := [("a", 2)]) (by rfl) nd (pi_range1 (by rfl) (fr_range T) (pa_cons (pv 1) pa_nil)) (blkOk_by (by kernel_rfl)) (fun _ _ _ _ _ => pg_name (i := 2) nd rfl (by first | exact Or.inl rfl | exact Or.inr rfl)) (fun _ _ _ _ _ => pts_nil) (fun _ _ _ _ _ => (pe_lc (own := [("b", 3)]) (by rfl) nd (pi_range1 (by rfl) (fr_range T) (pa_cons (pv 1) pa_nil)) (blkOk_by (by kernel_rfl)) (fun _ _ _ _ _ => pg_name (i := 3) nd rfl (by first | exact Or.inl rfl | exact Or.inr rfl)) (fun _ _ _ _ _ => pts_nil) (fun _ _ _ _ _ => (pe_call G_least_above (hr.mono (by decide)) rfl g_least_above k_least_above b_least_above .nil pass0 (pa_cons (pv 0) (pa_cons (pv 2) (pa_cons (pv 3) pa_nil))))))))) pss_nil)), ?_⟩
    obtain ⟨size_249, hx250, h⟩ := bindS h
    refine x_setI w0 (e_cb rc_lenL (ea_cons (e_var (R := (rL (rL rB))) (x := rows0) rfl hrows0) ea_nil)) hx250 ?_
    intro H251 w252
    obtain ⟨a267, hx268, h⟩ := bindS h
    have h : a267 = r := Option.some.inj h
    subst h
    exact x_ret w252 (EL.e (el_mapR (el_lcR (j := 2) (ea_cons (e_var (R := rI) (x := size_249) rfl rfl) ea_nil) (fun _ => rfl) (fun _ _ _ _ _ _ => et_yes) (fun x256 G257 W258 eG253 eW254 eX255 => (EL.e (el_mapR (el_lcR (j := 3) (ea_cons (e_var (R := rI) (x := size_249) rfl rfl) ea_nil) (fun _ => rfl) (fun _ _ _ _ _ _ => et_yes) (fun x262 G263 W264 eG259 eW260 eX261 => (e_call (ea_cons (e_var (R := (rL (rL rB))) (x := rows0) rfl (Rep.mono _ eG259 (Rep.mono _ eG253 hrows0))) (ea_cons (e_var (R := rI) (x := x256) rfl rfl) (ea_cons (e_var (R := rI) (x := x262) rfl rfl) ea_nil)))))))))))) (by first | (simp only [be1, bs1, ba1] at hx268 ⊢; exact hx268) | exact hx268) (fun v9 H9 G9 w9 e9 r9 => k v9 H9 G9 w9.upE r9)
def m_first_ring_b2 (rows0 : (List (List Bool))) (x287 : Int) (x309 : Int) (s299 : Unit) : Option (Stp Unit (Option (Int × Int))) :=
  ((andO ((atI rows0 x287 >>= fun t312 => atI t312 x309)) ((atI rows0 x309 >>= fun t313 => atI t313 x287))) >>= fun b314 => bif b314 then (some (some (x287, x309)) >>= fun a318 => some (Stp.rt a318)) else some (Stp.nx ()))
def m_first_ring_b1 (rows0 : (List (List Bool))) (x287 : Int) (s276 : Unit) : Option (Stp Unit (Option (Int × Int))) :=
  (some (x287 + (1 : Int)) >>= fun n290 => some (rows0.length : Int) >>= fun n292 => rngM n290 n292 >>= fun xs294 => forL (m_first_ring_b2 rows0 x287) xs294 () >>= Sum.elim (fun s299 => some (Stp.nx ())) (fun r => some (Stp.rt r)))
def m_first_ring (rows0 : (List (List Bool))) : Option (Option (Int × Int)) :=
  (some (rows0.length : Int) >>= fun n269 => rngM 0 n269 >>= fun xs271 => forL (m_first_ring_b1 rows0) xs271 () >>= Sum.elim (fun s276 => (some (none : (Option (Int × Int))) >>= fun a334 => some a334)) (fun r => some r))
theorem sc_first_ring : FnScope ["rows", "first", "second"] ["rows"] (defScope s_first_ring) := ⟨rfl, rfl, rfl, by decide +kernel, rfl, by decide +kernel, by decide +kernel⟩
theorem ok_first_ring (T : Tx K mg) : Fk P w K mg base CX0 1 "first_ring" ["rows"] (PF (aC (rL (rL rB)) aN) (rO (rP rI rI)) (fun i => m_first_ring i.1)) := by
  obtain ⟨fd, F⟩ := T.def_ 11 rfl
  have nd := sc_first_ring.nd
  refine fk_mk T.toTx (x := "first_ring") (T.glo 18 rfl) F (fun _ _ _ _ _ _ us hl => match us, hl with | [_], _ => rfl) (F.ok sc_first_ring (fun vs H Q E h => ?_) (fun cdv A outer s H vs Q E hr h => ?_))
  · obtain ⟨G, ⟨rows0, ⟨⟩⟩, r, e0, ⟨vrows0, _, rfl, hrows0, rfl⟩, h, k⟩ := h
    rfl
  · obtain ⟨G, ⟨rows0, ⟨⟩⟩, r, e0, ⟨vrows0, _, rfl, hrows0, rfl⟩, h, k⟩ := h
    have w0 := Wo.start e0
    have h : m_first_ring rows0 = some r := h
    unfold m_first_ring at h
    refine ⟨_, PSs.nox (pss_cons (ps_for PassesOwn.never rfl (pi_range1 (by rfl) (fr_range T) (pa_cons (pe_callB (r := rLn K) call_len_seq (by rfl) (fr_len T) (by decide +kernel) (pa_cons (pv 0) pa_nil)) pa_nil)) (pg_name (i := 1) nd rfl (Or.inl rfl)) (pss_cons (ps_for PassesOwn.never rfl (pi_range2 (by rfl) (fr_range T) (pa_cons (pe_op op_add (pv 1) pe_int) (pa_cons (pe_callB (r := rLn K) call_len_seq (by rfl) (fr_len T) (by decide +kernel) (pa_cons (pv 0) pa_nil)) pa_nil))) (pg_name (i := 2) nd rfl (Or.inl rfl)) (pss_cons (ps_if (PW.pt (pw_and (pt_val (pe_ix (r := rIxL K) ix_list (pe_ix (r := rIxL K) ix_list (pv 0) (pv 1) (fun _ _ => rfl)) (pv 2) (fun _ _ => rfl))) (pw_and1 (pt_val (pe_ix (r := rIxL K) ix_list (pe_ix (r := rIxL K) ix_list (pv 0) (pv 2) (fun _ _ => rfl)) (pv 1) (fun _ _ => rfl)))))) (pss_cons (ps_ret (pe_tup (pa_cons (pv 1) (pa_cons (pv 2) pa_nil)))) pss_nil) pss_nil) pss_nil)) pss_nil)) (pss_cons (ps_ret pe_non) pss_nil)), ?_⟩
    obtain ⟨n269, hx270, h⟩ := bindS h
    obtain ⟨xs271, hx272, h⟩ := bindS h
    obtain ⟨t274, hx275, h⟩ := bindS h
    refine x_forR w0 (ea_cons (Sim.E.is (e_cb rc_lenL (ea_cons (e_var (R := (rL (rL rB))) (x := rows0) rfl hrows0) ea_nil)) hx270) ea_nil) rfl hx272 (fun i G' H' σ' => ∃ s276 : Unit, ∃ u277 : Option V, ∃ u278 : Option V, Wo G H [] G' H' [] ∧ Evl.Ex G G' ∧ σ' = [some vrows0, u277, u278] ∧ forL (m_first_ring_b1 rows0) (xs271.drop i) s276 = some t274) ?_ ?_ ?_
    · intro G' H' w' e'
      exact ⟨(), (none), (none), w', e', rfl, hx275⟩
    · rintro i286 x287 σ' G282 H285 hx288 ⟨s276, u277, u278, w283, e284, rfl, hm280⟩
      obtain ⟨q281, hb279, hm280⟩ := forL_at hx288 hm280
      have h289 := Rep.mono _ e284 hrows0
      refine g_name ?_
      unfold m_first_ring_b1 at hb279
      obtain ⟨n290, hx291, hb279⟩ := bindS hb279
      obtain ⟨n292, hx293, hb279⟩ := bindS hb279
      obtain ⟨xs294, hx295, hb279⟩ := bindS hb279
      obtain ⟨t297, hx298, hb279⟩ := bindS hb279
      refine x_forR2 w283 (ea_cons (Sim.E.is (e_op rr_add (e_var (R := rI) (x := x287) rfl rfl) e_int) hx291) (ea_cons (Sim.E.is (e_cb rc_lenL (ea_cons (e_var (R := (rL (rL rB))) (x := rows0) rfl h289) ea_nil)) hx293) ea_nil)) rfl hx295 (fun i G' H' σ' => ∃ s299 : Unit, ∃ u300 : Option V, Wo G H [] G' H' [] ∧ Evl.Ex G282 G' ∧ σ' = [some vrows0, some (V.int x287), u300] ∧ forL (m_first_ring_b2 rows0 x287) (xs294.drop i) s299 = some t297) ?_ ?_ ?_
      · intro G' H' w' e'
        exact ⟨(), (u278), w', e', rfl, hx298⟩
      · rintro i308 x309 σ' G304 H307 hx310 ⟨s299, u300, w305, e306, rfl, hm302⟩
        obtain ⟨q303, hb301, hm302⟩ := forL_at hx310 hm302
        have h311 := Rep.mono _ e306 h289
        refine g_name ?_
        unfold m_first_ring_b2 at hb301
        obtain ⟨b314, hx315, hb301⟩ := bindS hb301
        refine x_if w305 (et_and (et_B (e_op rr_ixL (e_op rr_ixL (e_var (R := (rL (rL rB))) (x := rows0) rfl (Rep.mono _ w305.ex h311)) (e_var (R := rI) (x := x287) rfl rfl)) (e_var (R := rI) (x := x309) rfl rfl))) (et_B (e_op rr_ixL (e_op rr_ixL (e_var (R := (rL (rL rB))) (x := rows0) rfl (Rep.mono _ w305.ex h311)) (e_var (R := rI) (x := x309) rfl rfl)) (e_var (R := rI) (x := x287) rfl rfl)))) (by first | (simp only [be1, bs1, ba1] at hx315 ⊢; exact hx315) | exact hx315) ?_ ?_
        · intro hbb314 H316 w317
          subst hbb314
          have hb301 := bifT hb301
          obtain ⟨a318, hx319, hb301⟩ := bindS hb301
          have hb301 : some (Stp.rt a318) = some q303 := hb301
          cases hb301
          have hm302 : some (Sum.inr a318) = some t297 := hm302
          cases hm302
          have hb279 : some (Stp.rt a318) = some q281 := hb279
          cases hb279
          have hm280 : some (Sum.inr a318) = some t274 := hm280
          cases hm280
          have h : a318 = r := Option.some.inj h
          subst h
          exact x_ret w317 (e_some (e_pair (e_var (R := rI) (x := x287) rfl rfl) (e_var (R := rI) (x := x309) rfl rfl))) hx319 (fun v9 H9 G9 w9 e9 r9 => k v9 H9 G9 w9.upE r9)
        · intro hbb314 H320 w321
          subst hbb314
          have hb301 := bifF hb301
          refine x_next ?_
          refine x_next ?_
          have hb301 : Stp.nx () = q303 := Option.some.inj hb301
          subst hb301
          exact ⟨G304, (), (some (V.int x309)), w321, e306, rfl, hm302⟩
      · rintro σ' G322 H325 ⟨s299, u300, w323, e324, rfl, hm302⟩
        have hm302 := forL_end hm302
        subst hm302
        have hb279 := elimL hb279
        have h327 := Rep.mono _ e324 h289
        refine x_next ?_
        have hb279 : Stp.nx () = q281 := Option.some.inj hb279
        subst hb279
        exact ⟨G322, (), (some (V.int x287)), (u300), w323, (e284.trans e324), rfl, hm280⟩
    · rintro σ' G328 H331 ⟨s276, u277, u278, w329, e330, rfl, hm280⟩
      have hm280 := forL_end hm280
      subst hm280
      have h := elimL h
      have h333 := Rep.mono _ e330 hrows0
      obtain ⟨a334, hx335, h⟩ := bindS h
      have h : a334 = r := Option.some.inj h
      subst h
      exact x_ret w329 (e_none (R := (rP rI rI))) hx335 (fun v9 H9 G9 w9 e9 r9 => k v9 H9 G9 w9.upE r9)
def m_first_lack_b2 (table0 : (List (List (Option Int)))) (x354 : Int) (x376 : Int) (s366 : Unit) : Option (Stp Unit (Option (Int × Int))) :=
  (((atI table0 x354 >>= fun t379 => atI t379 x376) >>= fun t380 => some t380.isNone) >>= fun b381 => bif b381 then (some (some (x354, x376)) >>= fun a385 => some (Stp.rt a385)) else some (Stp.nx ()))
def m_first_lack_b1 (table0 : (List (List (Option Int)))) (x354 : Int) (s343 : Unit) : Option (Stp Unit (Option (Int × Int))) :=
  (some (x354 + (1 : Int)) >>= fun n357 => some (table0.length : Int) >>= fun n359 => rngM n357 n359 >>= fun xs361 => forL (m_first_lack_b2 table0 x354) xs361 () >>= Sum.elim (fun s366 => some (Stp.nx ())) (fun r => some (Stp.rt r)))
def m_first_lack (table0 : (List (List (Option Int)))) : Option (Option (Int × Int)) :=
  (some (table0.length : Int) >>= fun n336 => rngM 0 n336 >>= fun xs338 => forL (m_first_lack_b1 table0) xs338 () >>= Sum.elim (fun s343 => (some (none : (Option (Int × Int))) >>= fun a401 => some a401)) (fun r => some r))
theorem sc_first_lack : FnScope ["table", "first", "second"] ["table"] (defScope s_first_lack) := ⟨rfl, rfl, rfl, by decide +kernel, rfl, by decide +kernel, by decide +kernel⟩
theorem ok_first_lack (T : Tx K mg) : Fk P w K mg base CX0 1 "first_lack" ["table"] (PF (aC (rL (rL (rO rI))) aN) (rO (rP rI rI)) (fun i => m_first_lack i.1)) := by
  obtain ⟨fd, F⟩ := T.def_ 12 rfl
  have nd := sc_first_lack.nd
  refine fk_mk T.toTx (x := "first_lack") (T.glo 19 rfl) F (fun _ _ _ _ _ _ us hl => match us, hl with | [_], _ => rfl) (F.ok sc_first_lack (fun vs H Q E h => ?_) (fun cdv A outer s H vs Q E hr h => ?_))
  · obtain ⟨G, ⟨table0, ⟨⟩⟩, r, e0, ⟨vtable0, _, rfl, htable0, rfl⟩, h, k⟩ := h
    rfl
  · obtain ⟨G, ⟨table0, ⟨⟩⟩, r, e0, ⟨vtable0, _, rfl, htable0, rfl⟩, h, k⟩ := h
    have w0 := Wo.start e0
    have h : m_first_lack table0 = some r := h
    unfold m_first_lack at h
    refine ⟨_, PSs.nox (pss_cons (ps_for PassesOwn.never rfl (pi_range1 (by rfl) (fr_range T) (pa_cons (pe_callB (r := rLn K) call_len_seq (by rfl) (fr_len T) (by decide +kernel) (pa_cons (pv 0) pa_nil)) pa_nil)) (pg_name (i := 1) nd rfl (Or.inl rfl)) (pss_cons (ps_for PassesOwn.never rfl (pi_range2 (by rfl) (fr_range T) (pa_cons (pe_op op_add (pv 1) pe_int) (pa_cons (pe_callB (r := rLn K) call_len_seq (by rfl) (fr_len T) (by decide +kernel) (pa_cons (pv 0) pa_nil)) pa_nil))) (pg_name (i := 2) nd rfl (Or.inl rfl)) (pss_cons (ps_if (pt_cmpR op_isN (pe_ix (r := rIxL K) ix_list (pe_ix (r := rIxL K) ix_list (pv 0) (pv 1) (fun _ _ => rfl)) (pv 2) (fun _ _ => rfl)) pe_non (nomark _)) (pss_cons (ps_ret (pe_tup (pa_cons (pv 1) (pa_cons (pv 2) pa_nil)))) pss_nil) pss_nil) pss_nil)) pss_nil)) (pss_cons (ps_ret pe_non) pss_nil)), ?_⟩
    obtain ⟨n336, hx337, h⟩ := bindS h
    obtain ⟨xs338, hx339, h⟩ := bindS h
    obtain ⟨t341, hx342, h⟩ := bindS h
    refine x_forR w0 (ea_cons (Sim.E.is (e_cb rc_lenL (ea_cons (e_var (R := (rL (rL (rO rI)))) (x := table0) rfl htable0) ea_nil)) hx337) ea_nil) rfl hx339 (fun i G' H' σ' => ∃ s343 : Unit, ∃ u344 : Option V, ∃ u345 : Option V, Wo G H [] G' H' [] ∧ Evl.Ex G G' ∧ σ' = [some vtable0, u344, u345] ∧ forL (m_first_lack_b1 table0) (xs338.drop i) s343 = some t341) ?_ ?_ ?_
    · intro G' H' w' e'
      exact ⟨(), (none), (none), w', e', rfl, hx342⟩
    · rintro i353 x354 σ' G349 H352 hx355 ⟨s343, u344, u345, w350, e351, rfl, hm347⟩
      obtain ⟨q348, hb346, hm347⟩ := forL_at hx355 hm347
      have h356 := Rep.mono _ e351 htable0
      refine g_name ?_
      unfold m_first_lack_b1 at hb346
      obtain ⟨n357, hx358, hb346⟩ := bindS hb346
      obtain ⟨n359, hx360, hb346⟩ := bindS hb346
      obtain ⟨xs361, hx362, hb346⟩ := bindS hb346
      obtain ⟨t364, hx365, hb346⟩ := bindS hb346
      refine x_forR2 w350 (ea_cons (Sim.E.is (e_op rr_add (e_var (R := rI) (x := x354) rfl rfl) e_int) hx358) (ea_cons (Sim.E.is (e_cb rc_lenL (ea_cons (e_var (R := (rL (rL (rO rI)))) (x := table0) rfl h356) ea_nil)) hx360) ea_nil)) rfl hx362 (fun i G' H' σ' => ∃ s366 : Unit, ∃ u367 : Option V, Wo G H [] G' H' [] ∧ Evl.Ex G349 G' ∧ σ' = [some vtable0, some (V.int x354), u367] ∧ forL (m_first_lack_b2 table0 x354) (xs361.drop i) s366 = some t364) ?_ ?_ ?_
      · intro G' H' w' e'
        exact ⟨(), (u345), w', e', rfl, hx365⟩
      · rintro i375 x376 σ' G371 H374 hx377 ⟨s366, u367, w372, e373, rfl, hm369⟩
        obtain ⟨q370, hb368, hm369⟩ := forL_at hx377 hm369
        have h378 := Rep.mono _ e373 h356
        refine g_name ?_
        unfold m_first_lack_b2 at hb368
        obtain ⟨b381, hx382, hb368⟩ := bindS hb368
        refine x_if w372 (et_T (e_op (rr_isN nnI) (e_op rr_ixL (e_op rr_ixL (e_var (R := (rL (rL (rO rI)))) (x := table0) rfl (Rep.mono _ w372.ex h378)) (e_var (R := rI) (x := x354) rfl rfl)) (e_var (R := rI) (x := x376) rfl rfl)) e_non)) (by first | (simp only [be1, bs1, ba1] at hx382 ⊢; exact hx382) | exact hx382) ?_ ?_
        · intro hbb381 H383 w384
          subst hbb381
          have hb368 := bifT hb368
          obtain ⟨a385, hx386, hb368⟩ := bindS hb368
          have hb368 : some (Stp.rt a385) = some q370 := hb368
          cases hb368
          have hm369 : some (Sum.inr a385) = some t364 := hm369
          cases hm369
          have hb346 : some (Stp.rt a385) = some q348 := hb346
          cases hb346
          have hm347 : some (Sum.inr a385) = some t341 := hm347
          cases hm347
          have h : a385 = r := Option.some.inj h
          subst h
          exact x_ret w384 (e_some (e_pair (e_var (R := rI) (x := x354) rfl rfl) (e_var (R := rI) (x := x376) rfl rfl))) hx386 (fun v9 H9 G9 w9 e9 r9 => k v9 H9 G9 w9.upE r9)
        · intro hbb381 H387 w388
          subst hbb381
          have hb368 := bifF hb368
          refine x_next ?_
          refine x_next ?_
          have hb368 : Stp.nx () = q370 := Option.some.inj hb368
          subst hb368
          exact ⟨G371, (), (some (V.int x376)), w388, e373, rfl, hm369⟩
      · rintro σ' G389 H392 ⟨s366, u367, w390, e391, rfl, hm369⟩
        have hm369 := forL_end hm369
        subst hm369
        have hb346 := elimL hb346
        have h394 := Rep.mono _ e391 h356
        refine x_next ?_
        have hb346 : Stp.nx () = q348 := Option.some.inj hb346
        subst hb346
        exact ⟨G389, (), (some (V.int x354)), (u367), w390, (e351.trans e391), rfl, hm347⟩
    · rintro σ' G395 H398 ⟨s343, u344, u345, w396, e397, rfl, hm347⟩
      have hm347 := forL_end hm347
      subst hm347
      have h := elimL h
      have h400 := Rep.mono _ e397 htable0
      obtain ⟨a401, hx402, h⟩ := bindS h
      have h : a401 = r := Option.some.inj h
      subst h
      exact x_ret w396 (e_none (R := (rP rI rI))) hx402 (fun v9 H9 G9 w9 e9 r9 => k v9 H9 G9 w9.upE r9)
def m_longest_b3 (x464 : Int) (rows0 : (List (List Bool))) (x485 : Int) (s475 : (List Int)) : Option (List Int) :=
  (((andO (some (!(x464 == x485))) ((atI rows0 x464 >>= fun t489 => atI t489 x485))) >>= fun b490 => bif b490 then ((atI s475 x485 >>= fun t515 => ((atI s475 x464 >>= fun t514 => some (t514 + (1 : Int))) >>= fun t516 => some (if t516 > t515 then t516 else t515))) >>= fun a517 => some x485 >>= fun i518 => setM s475 i518 a517 >>= fun steps_519 => some steps_519) else some s475) >>= fun s506 => some (s506))
def m_longest_b2 (rows0 : (List (List Bool))) (x464 : Int) (s453 : (List Int)) : Option (List Int) :=
  (some (rows0.length : Int) >>= fun n468 => rngM 0 n468 >>= fun xs470 => forS (m_longest_b3 x464 rows0) xs470 s453 >>= fun s475 => some (s475))
def m_longest_b1 (rows0 : (List (List Bool))) (x438 : (List Bool)) (s426 : (List Int)) : Option (List Int) :=
  (some (rows0.length : Int) >>= fun n446 => rngM 0 n446 >>= fun xs448 => forS (m_longest_b2 rows0) xs448 s426 >>= fun s453 => some (s453))
def m_longest (rows0 : (List (List Bool))) : Option Int :=
  (mapS (fun x406 => some (0 : Int)) rows0 >>= fun steps_412 => (some rows0 >>= fun xs421 => forS (m_longest_b1 rows0) xs421 steps_412 >>= fun s426 => (maxL s426 >>= fun a561 => some a561)))
theorem sc_longest : FnScope ["rows", "steps", "_", "low", "high"] ["rows"] (defScope s_longest) := ⟨rfl, rfl, rfl, by decide +kernel, rfl, by decide +kernel, by decide +kernel⟩
theorem ok_longest (T : Tx K mg) : Fk P w K mg base CX0 1 "longest" ["rows"] (PF (aC (rL (rL rB)) aN) rI (fun i => m_longest i.1)) := by
  obtain ⟨fd, F⟩ := T.def_ 13 rfl
  have nd := sc_longest.nd
  refine fk_mk T.toTx (x := "longest") (T.glo 20 rfl) F (fun _ _ _ _ _ _ us hl => match us, hl with | [_], _ => rfl) (F.ok sc_longest (fun vs H Q E h => ?_) (fun cdv A outer s H vs Q E hr h => ?_))
  · obtain ⟨G, ⟨rows0, ⟨⟩⟩, r, e0, ⟨vrows0, _, rfl, hrows0, rfl⟩, h, k⟩ := h
    rfl
  · obtain ⟨G, ⟨rows0, ⟨⟩⟩, r, e0, ⟨vrows0, _, rfl, hrows0, rfl⟩, h, k⟩ := h
    have w0 := Wo.start e0
    have h : m_longest rows0 = some r := h
    unfold m_longest at h
    refine ⟨_, PSs.nox (pss_cons (ps_setLc (i := 1) (own := [("_", 2)]) (by rfl) nd rfl rfl (sw_true rfl rfl rfl (by decide +kernel)) (show L2.PI _ _ _ (iList K _) from pi_list (pv 0)) (blkOk_by (by kernel_rfl)) (fun _ _ _ _ _ => pg_name (i := 2) nd rfl (by first | exact Or.inl rfl | exact Or.inr rfl)) (fun _ _ _ _ _ => pts_nil) (fun _ _ _ _ _ => pe_int)) (pss_cons (ps_for PassesOwn.never rfl (pi_list (pv 0)) (pg_name (i := 2) nd rfl (Or.inl rfl)) (pss_cons (ps_for PassesOwn.never rfl (pi_range1 (by rfl) (fr_range T) (pa_cons (pe_callB (r := rLn K) call_len_seq (by rfl) (fr_len T) (by decide +kernel) (pa_cons (pv 0) pa_nil)) pa_nil)) (pg_name (i := 3) nd rfl (Or.inl rfl)) (pss_cons (ps_for PassesOwn.never rfl (pi_range1 (by rfl) (fr_range T) (pa_cons (pe_callB (r := rLn K) call_len_seq (by rfl) (fr_len T) (by decide +kernel) (pa_cons (pv 0) pa_nil)) pa_nil)) (pg_name (i := 4) nd rfl (Or.inl rfl)) (Evl.pss_cut (ps_if (PW.pt (pw_and (pt_cmpR op_ne (pv 3) (pv 4) (nomark _)) (pw_and1 (pt_val (pe_ix (r := rIxL K) ix_list (pe_ix (r := rIxL K) ix_list (pv 0) (pv 3) (fun _ _ => rfl)) (pv 4) (fun _ _ => rfl)))))) (pss_cons (ps_asg (pe_callB (call_max2 rfl) (by rfl) (fr_max T) (by decide +kernel) (pa_cons (pe_ix (r := rIxL K) ix_list (pv 1) (pv 4) (fun _ _ => rfl)) (pa_cons (pe_op op_add (pe_ix (r := rIxL K) ix_list (pv 1) (pv 3) (fun _ _ => rfl)) pe_int) pa_nil))) (pg_sub (pv 1) (pv 4) set_list)) pss_nil) pss_nil) pss_nil)) pss_nil)) pss_nil)) (pss_cons (ps_ret (pe_callB (r := rMax K) (cr_max rfl) (by rfl) (fr_max T) (by decide +kernel) (pa_cons (pv 1) pa_nil))) pss_nil))), ?_⟩
    obtain ⟨steps_412, hx413, h⟩ := bindS h
    refine x_setL w0 (el_map (el_lcL (j := 2) (e_var (R := (rL (rL rB))) (x := rows0) rfl hrows0) (fun _ => rfl) (fun _ _ _ _ _ _ _ _ => et_yes) (fun x406 v409 G407 W408 eG403 eW404 eX405 h410 => e_int))) hx413 ?_
    intro p416 H414 G417 n418 w415 e419
    have h420 := Rep.mono _ e419 hrows0
    obtain ⟨xs421, hx422, h⟩ := bindS h
    obtain ⟨t424, hx425, h⟩ := bindS h
    refine x_forL w415 (e_var (R := (rL (rL rB))) (x := rows0) rfl h420) hx422 (fun i G' H' σ' => ∃ s426 : (List Int), ∃ u427 : Option V, ∃ u428 : Option V, ∃ u429 : Option V, Wo G H [] G' H' [(p416, cL rI s426)] ∧ Evl.Ex G417 G' ∧ σ' = [some vrows0, some (V.ref p416), u427, u429, u428] ∧ forS (m_longest_b1 rows0) (xs421.drop i) s426 = some t424) (fun _ _ _ _ ⟨_, _, _, _, w, _⟩ => w.ex) ?_ ?_ ?_
    · intro G' H' w' e'
      exact ⟨steps_412, (none), (none), (none), w', e', rfl, hx425⟩
    · rintro G440 e441 i437 x438 v442 σ' G433 H436 hx439 e444 ⟨s426, u427, u428, u429, w434, e435, rfl, hm431⟩ r443
      obtain ⟨q432, hb430, hm431⟩ := forS_at hx439 hm431
      have h445 := Rep.mono _ e435 h420
      refine g_name ?_
      unfold m_longest_b1 at hb430
      obtain ⟨n446, hx447, hb430⟩ := bindS hb430
      obtain ⟨xs448, hx449, hb430⟩ := bindS hb430
      obtain ⟨t451, hx452, hb430⟩ := bindS hb430
      refine x_forR w434 (ea_cons (Sim.E.is (e_cb rc_lenL (ea_cons (e_var (R := (rL (rL rB))) (x := rows0) rfl h445) ea_nil)) hx447) ea_nil) rfl hx449 (fun i G' H' σ' => ∃ s453 : (List Int), ∃ u454 : Option V, ∃ u455 : Option V, Wo G H [] G' H' [(p416, cL rI s453)] ∧ Evl.Ex G433 G' ∧ σ' = [some vrows0, some (V.ref p416), some v442, u455, u454] ∧ forS (m_longest_b2 rows0) (xs448.drop i) s453 = some t451) ?_ ?_ ?_
      · intro G' H' w' e'
        exact ⟨s426, (u428), (u429), w', e', rfl, hx452⟩
      · rintro i463 x464 σ' G459 H462 hx465 ⟨s453, u454, u455, w460, e461, rfl, hm457⟩
        obtain ⟨q458, hb456, hm457⟩ := forS_at hx465 hm457
        have h466 := Rep.mono _ e461 h445
        have h467 := Rep.mono _ e461 r443
        refine g_name ?_
        unfold m_longest_b2 at hb456
        obtain ⟨n468, hx469, hb456⟩ := bindS hb456
        obtain ⟨xs470, hx471, hb456⟩ := bindS hb456
        obtain ⟨t473, hx474, hb456⟩ := bindS hb456
        refine x_forR w460 (ea_cons (Sim.E.is (e_cb rc_lenL (ea_cons (e_var (R := (rL (rL rB))) (x := rows0) rfl h466) ea_nil)) hx469) ea_nil) rfl hx471 (fun i G' H' σ' => ∃ s475 : (List Int), ∃ u476 : Option V, Wo G H [] G' H' [(p416, cL rI s475)] ∧ Evl.Ex G459 G' ∧ σ' = [some vrows0, some (V.ref p416), some v442, some (V.int x464), u476] ∧ forS (m_longest_b3 x464 rows0) (xs470.drop i) s475 = some t473) ?_ ?_ ?_
        · intro G' H' w' e'
          exact ⟨s453, (u454), w', e', rfl, hx474⟩
        · rintro i484 x485 σ' G480 H483 hx486 ⟨s475, u476, w481, e482, rfl, hm478⟩
          obtain ⟨q479, hb477, hm478⟩ := forS_at hx486 hm478
          have h487 := Rep.mono _ e482 h466
          have h488 := Rep.mono _ e482 h467
          refine g_name ?_
          unfold m_longest_b3 at hb477
          obtain ⟨s506, hx507, hb477⟩ := bindS hb477
          refine o_cut (fun σ' H' => ∃ G' : Hp, Wo G H [] G' H' [(p416, cL rI s506)] ∧ Evl.Ex G480 G' ∧ σ' = [some vrows0, some (V.ref p416), some v442, some (V.int x464), some (V.int x485)]) ?_ ?_
          · obtain ⟨b490, hx511, hx507⟩ := bindS hx507
            refine x_if w481 (et_and (et_T (e_op rr_neI (e_var (R := rI) (x := x464) rfl rfl) (e_var (R := rI) (x := x485) rfl rfl))) (et_B (e_op rr_ixL (e_op rr_ixL (e_var (R := (rL (rL rB))) (x := rows0) rfl (Rep.mono _ w481.ex h487)) (e_var (R := rI) (x := x464) rfl rfl)) (e_var (R := rI) (x := x485) rfl rfl)))) (by first | (simp only [be1, bs1, ba1] at hx511 ⊢; exact hx511) | exact hx511) ?_ ?_
            · intro hbb490 H512 w513
              subst hbb490
              have hx507 := bifT hx507
              obtain ⟨a517, hx520, hx507⟩ := bindS hx507
              obtain ⟨i518, hx521, hx507⟩ := bindS hx507
              obtain ⟨steps_519, hx522, hx507⟩ := bindS hx507
              refine x_setIx (j := 0) w513 rfl rfl (Sim.E.s scI (e_cb rc_max2 (ea_cons (e_op rr_ixL (e_var (R := (rL rI)) (x := s475) rfl (w513.rlAt (i := 0) rfl)) (e_var (R := rI) (x := x485) rfl rfl)) (ea_cons (e_op rr_add (e_op rr_ixL (e_var (R := (rL rI)) (x := s475) rfl (w513.rlAt (i := 0) rfl)) (e_var (R := rI) (x := x464) rfl rfl)) e_int) ea_nil)))) (by first | (simp only [be1, bs1, ba1] at hx520 ⊢; exact hx520) | exact hx520) (e_var (R := rI) (x := x485) rfl rfl) (by first | (simp only [be1, bs1, ba1] at hx521 ⊢; exact hx521) | exact hx521) hx522 ?_
              intro H523 G524 w525 e526
              have h527 := Rep.mono _ e526 h487
              have h528 := Rep.mono _ e526 h488
              have w525 : Wo G H [] G524 H523 [(p416, cL rI steps_519)] := w525
              refine x_next ?_
              have hx507 : steps_519 = s506 := Option.some.inj hx507
              subst hx507
              exact ⟨G524, w525, e526, rfl⟩
            · intro hbb490 H529 w530
              subst hbb490
              have hx507 := bifF hx507
              refine x_next ?_
              have hx507 : s475 = s506 := Option.some.inj hx507
              subst hx507
              exact ⟨G480, w530, (Evl.Ex.refl _), rfl⟩
          · rintro σ' H534 ⟨G531, w509, e508, rfl⟩
            have h532 := Rep.mono _ e508 h487
            have h533 := Rep.mono _ e508 h488
            refine x_next ?_
            have hb477 : s506 = q479 := Option.some.inj hb477
            subst hb477
            exact ⟨G531, s506, (some (V.int x485)), w509, (e482.trans e508), rfl, hm478⟩
        · rintro σ' G535 H538 ⟨s475, u476, w536, e537, rfl, hm478⟩
          have hm478 := forS_end hm478
          subst hm478
          have h540 := Rep.mono _ e537 h466
          have h541 := Rep.mono _ e537 h467
          refine x_next ?_
          have hb456 : s475 = q458 := Option.some.inj hb456
          subst hb456
          exact ⟨G535, s475, (u476), (some (V.int x464)), w536, (e461.trans e537), rfl, hm457⟩
      · rintro σ' G542 H545 ⟨s453, u454, u455, w543, e544, rfl, hm457⟩
        have hm457 := forS_end hm457
        subst hm457
        have h547 := Rep.mono _ e544 h445
        have h548 := Rep.mono _ e544 r443
        refine x_next ?_
        have hb430 : s453 = q432 := Option.some.inj hb430
        subst hb430
        exact ⟨G542, (e444.trans e544), s453, (some v442), (u454), (u455), w543, (e435.trans e544), rfl, hm431⟩
    · rintro σ' G549 H552 e553 ⟨s426, u427, u428, u429, w550, e551, rfl, hm431⟩
      have hm431 := forS_end hm431
      subst hm431
      have h555 := Rep.mono _ e551 h420
      obtain ⟨G556, w557, e558, h559⟩ := w550.freezeAt (i := 0) rfl n418
      have h560 := Rep.mono _ e558 h555
      have w557 : Wo G H [] G556 H552 [] := w557
      obtain ⟨a561, hx562, h⟩ := bindS h
      have h : a561 = r := Option.some.inj h
      subst h
      exact x_ret w557 (e_cb rc_maxL (ea_cons (e_var (R := (rL rI)) (x := s426) rfl h559) ea_nil)) hx562 (fun v9 H9 G9 w9 e9 r9 => k v9 H9 G9 w9.upE r9)
def m_Order___init___b2 (size0 : Int) (x613 : Int) (s603 : Unit) : Option Unit :=
  (some ((decide (x613 < (0 : Int))) || (decide (size0 ≤ x613))) >>= fun b621 => bif b621 then none else some (()))
def m_Order___init___b1 (size0 : Int) (x586 : (Int × Int)) (s574 : Unit) : Option Unit :=
  (some ([x586.1, x586.2]) >>= fun xs598 => forS (m_Order___init___b2 size0) xs598 () >>= fun s603 => some (()))
def m_Order___init__ (size0 : Int) (pairs0 : (List (Int × Int))) : Option m_Order :=
  (some ((decide (size0 < (1 : Int))) || (decide ((12 : Int) < size0))) >>= fun b563 => bif b563 then none else (some pairs0 >>= fun xs569 => forS (m_Order___init___b1 size0) xs569 () >>= fun s574 => (m_closure size0 pairs0 >>= fun above_641 => (m_first_ring above_641 >>= fun bad_650 => (some bad_650.isSome >>= fun b660 => bif b660 then none else (m_bounds_table above_641 >>= fun joins_666 => (m_first_lack joins_666 >>= fun bad_677 => (some bad_677.isSome >>= fun b689 => bif b689 then none else ((m_turned above_641 >>= fun t695 => m_bounds_table t695) >>= fun meets_696 => (m_first_lack meets_696 >>= fun bad_708 => (some bad_708.isSome >>= fun b721 => bif b721 then none else (some above_641 >>= fun f727 => (some joins_666 >>= fun f738 => (some meets_696 >>= fun f749 => (rngM 0 size0 >>= fun f760 => (m_longest above_641 >>= fun f771 => some (m_Order.mk f727 f738 f749 f760 f771)))))))))))))))))
theorem sc_Order___init__ : FnScope ["self", "size", "pairs", "above", "bad", "joins", "meets", "low", "high", "value"] ["self", "size", "pairs"] (defScope s_Order___init__) := ⟨rfl, rfl, rfl, by decide +kernel, rfl, by decide +kernel, by decide +kernel⟩
theorem ok_Order___init__ (T : Tx K mg) : Fm P w K mg base CX0 3 "Order" "__init__" ["self", "size", "pairs"] (Sim.PI (He.ga K "Order") (aC rI (aC (rL (rP rI rI)) aN)) ns_Order (fl_Order K) (fun i => m_Order___init__ i.1 i.2.1)) := by
  obtain ⟨fd_closure, G_closure, b_closure, k_closure, g_closure⟩ := ok_closure (w := w) (base := base) T
  obtain ⟨fd_first_ring, G_first_ring, b_first_ring, k_first_ring, g_first_ring⟩ := ok_first_ring (w := w) (base := base) T
  obtain ⟨fd_bounds_table, G_bounds_table, b_bounds_table, k_bounds_table, g_bounds_table⟩ := ok_bounds_table (w := w) (base := base) T
  obtain ⟨fd_first_lack, G_first_lack, b_first_lack, k_first_lack, g_first_lack⟩ := ok_first_lack (w := w) (base := base) T
  obtain ⟨fd_turned, G_turned, b_turned, k_turned, g_turned⟩ := ok_turned (w := w) (base := base) T
  obtain ⟨fd_longest, G_longest, b_longest, k_longest, g_longest⟩ := ok_longest (w := w) (base := base) T
  obtain ⟨u_Order_MOST, c_Order_MOST⟩ := T.con 0 (C := "Order") (f := "MOST") (v := .int 12) rfl
  obtain ⟨fd, F⟩ := T.def_ 15 rfl
  have nd := sc_Order___init__.nd
  refine fm_mk F (fun _ _ _ _ _ _ us hl => match us, hl with | [_, _, _], _ => rfl) (F.ok sc_Order___init__ (fun vs H Q E h => ?_) (fun cdv A outer s H vs Q E hr h => ?_))
  · obtain ⟨G, l, _, ⟨size0, pairs0, ⟨⟩⟩, r, rfl, wd, ⟨vsize0, _, rfl, hsize0, vpairs0, _, rfl, hpairs0, rfl⟩, h, k⟩ := h
    rfl
  · obtain ⟨G, l, _, ⟨size0, pairs0, ⟨⟩⟩, r, rfl, wd, ⟨vsize0, _, rfl, hsize0, vpairs0, _, rfl, hpairs0, rfl⟩, h, k⟩ := h
    cases hsize0
    have w0 : Wo G H [l] G H _ := Wo.startC wd
    have h : m_Order___init__ size0 pairs0 = some r := h
    unfold m_Order___init__ at h
    refine ⟨_, PSs.nox (pss_cons (ps_if (PW.pt (pw_or (pt_cmpR op_lt (pv 1) pe_int (nomark _)) (pw_or1 (pt_cmpR op_gt (pv 1) (pe_con (pv 0) rfl) (nomark _))))) (pss_cons ps_never pss_nil) pss_nil) (pss_cons (ps_for PassesOwn.never rfl (pi_list (pv 2)) (pg_tup (by rfl) (pgs_cons (pg_name (i := 7) nd rfl (by first | exact Or.inl rfl | exact Or.inr rfl)) (pgs_cons (pg_name (i := 8) nd rfl (by first | exact Or.inl rfl | exact Or.inr rfl)) pgs_nil))) (pss_cons (ps_for PassesOwn.never rfl (pi_tup (pe_tup (pa_cons (pv 7) (pa_cons (pv 8) pa_nil)))) (pg_name (i := 9) nd rfl (Or.inl rfl)) (pss_cons (ps_if (PW.pt (pw_or (pt_cmpR op_lt (pv 9) pe_int (nomark _)) (pw_or1 (pt_cmpR op_ge (pv 9) (pv 1) (nomark _))))) (pss_cons ps_never pss_nil) pss_nil) pss_nil)) pss_nil)) (pss_cons (ps_set (i := 3) nd rfl (Or.inl rfl) (pe_call G_closure (hr.mono (by decide)) rfl g_closure k_closure b_closure .nil pass0 (pa_cons (pv 1) (pa_cons (pv 2) pa_nil)))) (pss_cons (ps_set (i := 4) nd rfl (Or.inl rfl) (pe_call G_first_ring (hr.mono (by decide)) rfl g_first_ring k_first_ring b_first_ring .nil pass0 (pa_cons (pv 3) pa_nil))) (pss_cons (ps_if (pt_cmpR op_notN (pv 4) pe_non (nomark _)) (pss_cons ps_never pss_nil) pss_nil) (pss_cons (ps_set (i := 5) nd rfl (Or.inl rfl) (pe_call G_bounds_table (hr.mono (by decide)) rfl g_bounds_table k_bounds_table b_bounds_table .nil pass0 (pa_cons (pv 3) pa_nil))) (pss_cons (ps_set (i := 4) nd rfl (Or.inl rfl) (pe_call G_first_lack (hr.mono (by decide)) rfl g_first_lack k_first_lack b_first_lack .nil pass0 (pa_cons (pv 5) pa_nil))) (pss_cons (ps_if (pt_cmpR op_notN (pv 4) pe_non (nomark _)) (pss_cons ps_never pss_nil) pss_nil) (pss_cons (ps_set (i := 6) nd rfl (Or.inl rfl) (pe_call G_bounds_table (hr.mono (by decide)) rfl g_bounds_table k_bounds_table b_bounds_table .nil pass0 (pa_cons (pe_call G_turned (hr.mono (by decide)) rfl g_turned k_turned b_turned .nil pass0 (pa_cons (pv 3) pa_nil)) pa_nil))) (pss_cons (ps_set (i := 4) nd rfl (Or.inl rfl) (pe_call G_first_lack (hr.mono (by decide)) rfl g_first_lack k_first_lack b_first_lack .nil pass0 (pa_cons (pv 6) pa_nil))) (pss_cons (ps_if (pt_cmpR op_notN (pv 4) pe_non (nomark _)) (pss_cons ps_never pss_nil) pss_nil) (pss_cons (ps_fld (pv 0) (pv 3) rfl) (pss_cons (ps_fld (pv 0) (pv 5) rfl) (pss_cons (ps_fld (pv 0) (pv 6) rfl) (pss_cons (ps_fld (pv 0) (pe_listRg (by rfl) (by rfl) (fr_list T) (prg_1 (by rfl) (fr_range T) (pv 1))) rfl) (pss_cons (ps_fld (pv 0) (pe_call G_longest (hr.mono (by decide)) rfl g_longest k_longest b_longest .nil pass0 (pa_cons (pv 3) pa_nil)) rfl) pss_nil)))))))))))))))), ?_⟩
    obtain ⟨b563, hx564, h⟩ := bindS h
    refine x_if w0 (et_orP (et_T (e_op rr_lt (e_var (R := rI) (x := size0) rfl rfl) e_int)) (et_T (e_op rr_gt (e_var (R := rI) (x := size0) rfl rfl) (e_conC (S := rI) (x := (12 : Int)) (j := 0) w0 rfl rfl (T.cls 51 rfl) c_Order_MOST (by decide +kernel) (fun _ => rfl))))) hx564 ?_ ?_
    · intro hbb563 H565 w566
      subst hbb563
      have h := bifT h
      cases (show none = some _ from h)
    · intro hbb563 H567 w568
      subst hbb563
      have h := bifF h
      refine x_next ?_
      obtain ⟨xs569, hx570, h⟩ := bindS h
      obtain ⟨t572, hx573, h⟩ := bindS h
      refine x_forL w568 (e_var (R := (rL (rP rI rI))) (x := pairs0) rfl hpairs0) hx570 (fun i G' H' σ' => ∃ s574 : Unit, ∃ u575 : Option V, ∃ u576 : Option V, ∃ u577 : Option V, Wo G H [l] G' H' [(l, cI (He.ga K "Order") [] [])] ∧ Evl.Ex G G' ∧ σ' = [some (V.ref l), some (V.int size0), some vpairs0, none, none, none, none, u576, u575, u577] ∧ forS (m_Order___init___b1 size0) (xs569.drop i) s574 = some t572) (fun _ _ _ _ ⟨_, _, _, _, w, _⟩ => w.ex) ?_ ?_ ?_
      · intro G' H' w' e'
        exact ⟨(), (none), (none), (none), w', e', rfl, hx573⟩
      · rintro G588 e589 i585 x586 v590 σ' G581 H584 hx587 e592 ⟨s574, u575, u576, u577, w582, e583, rfl, hm579⟩ r591
        obtain ⟨q580, hb578, hm579⟩ := forS_at hx587 hm579
        have h593 := Rep.mono _ e583 hpairs0
        refine g_pair (i := 7) (j := 8) r591 w582.ex ?_
        intro v594 v595 r596 r597
        cases r596
        cases r597
        unfold m_Order___init___b1 at hb578
        obtain ⟨xs598, hx599, hb578⟩ := bindS hb578
        obtain ⟨t601, hx602, hb578⟩ := bindS hb578
        refine x_forT w582 (e_tupH (eal_cons (e_var (R := rI) (x := x586.1) rfl rfl) (eal_cons (e_var (R := rI) (x := x586.2) rfl rfl) eal_nil))) hx599 (fun i G' H' σ' => ∃ s603 : Unit, ∃ u604 : Option V, Wo G H [l] G' H' [(l, cI (He.ga K "Order") [] [])] ∧ Evl.Ex G581 G' ∧ σ' = [some (V.ref l), some (V.int size0), some vpairs0, none, none, none, none, some (V.int x586.1), some (V.int x586.2), u604] ∧ forS (m_Order___init___b2 size0) (xs598.drop i) s603 = some t601) (fun _ _ _ _ ⟨_, _, w, _⟩ => w.ex) ?_ ?_ ?_
        · intro G' H' w' e'
          exact ⟨(), (u577), w', e', rfl, hx602⟩
        · rintro G615 e616 i612 x613 v617 σ' G608 H611 hx614 e619 ⟨s603, u604, w609, e610, rfl, hm606⟩ r618
          obtain ⟨q607, hb605, hm606⟩ := forS_at hx614 hm606
          have h620 := Rep.mono _ e610 h593
          refine g_name ?_
          cases r618
          unfold m_Order___init___b2 at hb605
          obtain ⟨b621, hx622, hb605⟩ := bindS hb605
          refine x_if w609 (et_orP (et_T (e_op rr_lt (e_var (R := rI) (x := x613) rfl rfl) e_int)) (et_T (e_op rr_ge (e_var (R := rI) (x := x613) rfl rfl) (e_var (R := rI) (x := size0) rfl rfl)))) hx622 ?_ ?_
          · intro hbb621 H623 w624
            subst hbb621
            have hb605 := bifT hb605
            cases (show none = some _ from hb605)
          · intro hbb621 H625 w626
            subst hbb621
            have hb605 := bifF hb605
            refine x_next ?_
            refine x_next ?_
            have hb605 : () = q607 := Option.some.inj hb605
            subst hb605
            exact ⟨G608, (e619.trans (Evl.Ex.refl _)), (), (some (V.int x613)), w626, e610, rfl, hm606⟩
        · rintro σ' G627 H630 e631 ⟨s603, u604, w628, e629, rfl, hm606⟩
          have hm606 := forS_end hm606
          subst hm606
          have h633 := Rep.mono _ e629 h593
          refine x_next ?_
          have hb578 : () = q580 := Option.some.inj hb578
          subst hb578
          exact ⟨G627, (e592.trans e629), (), (some (V.int x586.2)), (some (V.int x586.1)), (u604), w628, (e583.trans e629), rfl, hm579⟩
      · rintro σ' G634 H637 e638 ⟨s574, u575, u576, u577, w635, e636, rfl, hm579⟩
        have hm579 := forS_end hm579
        subst hm579
        have h640 := Rep.mono _ e636 hpairs0
        obtain ⟨above_641, hx642, h⟩ := bindS h
        refine x_set w635 (e_call (ea_cons (e_var (R := rI) (x := size0) rfl rfl) (ea_cons (e_var (R := (rL (rP rI rI))) (x := pairs0) rfl h640) ea_nil))) (by first | (simp only [be1, bs1, ba1] at hx642 ⊢; exact hx642) | exact hx642) ?_
        intro v645 H643 G646 w644 e647 h648
        have h649 := Rep.mono _ e647 h640
        obtain ⟨bad_650, hx651, h⟩ := bindS h
        refine x_set w644 (e_call (ea_cons (e_var (R := (rL (rL rB))) (x := above_641) rfl h648) ea_nil)) (by first | (simp only [be1, bs1, ba1] at hx651 ⊢; exact hx651) | exact hx651) ?_
        intro v654 H652 G655 w653 e656 h657
        have h658 := Rep.mono _ e656 h649
        have h659 := Rep.mono _ e656 h648
        obtain ⟨b660, hx661, h⟩ := bindS h
        refine x_if w653 (et_T (e_op (rr_notN nnP) (e_var (R := (rO (rP rI rI))) (x := bad_650) rfl (Rep.mono _ w653.ex h657)) e_non)) hx661 ?_ ?_
        · intro hbb660 H662 w663
          subst hbb660
          have h := bifT h
          cases (show none = some _ from h)
        · intro hbb660 H664 w665
          subst hbb660
          have h := bifF h
          refine x_next ?_
          obtain ⟨joins_666, hx667, h⟩ := bindS h
          refine x_set w665 (e_call (ea_cons (e_var (R := (rL (rL rB))) (x := above_641) rfl h659) ea_nil)) (by first | (simp only [be1, bs1, ba1] at hx667 ⊢; exact hx667) | exact hx667) ?_
          intro v670 H668 G671 w669 e672 h673
          have h674 := Rep.mono _ e672 h658
          have h675 := Rep.mono _ e672 h659
          have h676 := Rep.mono _ e672 h657
          obtain ⟨bad_677, hx678, h⟩ := bindS h
          refine x_set w669 (e_call (ea_cons (e_var (R := (rL (rL (rO rI)))) (x := joins_666) rfl h673) ea_nil)) (by first | (simp only [be1, bs1, ba1] at hx678 ⊢; exact hx678) | exact hx678) ?_
          intro v681 H679 G682 w680 e683 h684
          have h685 := Rep.mono _ e683 h674
          have h686 := Rep.mono _ e683 h675
          have h687 := Rep.mono _ e683 h676
          have h688 := Rep.mono _ e683 h673
          obtain ⟨b689, hx690, h⟩ := bindS h
          refine x_if w680 (et_T (e_op (rr_notN nnP) (e_var (R := (rO (rP rI rI))) (x := bad_677) rfl (Rep.mono _ w680.ex h684)) e_non)) hx690 ?_ ?_
          · intro hbb689 H691 w692
            subst hbb689
            have h := bifT h
            cases (show none = some _ from h)
          · intro hbb689 H693 w694
            subst hbb689
            have h := bifF h
            refine x_next ?_
            obtain ⟨meets_696, hx697, h⟩ := bindS h
            refine x_set w694 (e_call (ea_cons (e_call (ea_cons (e_var (R := (rL (rL rB))) (x := above_641) rfl h686) ea_nil)) ea_nil)) (by first | (simp only [be1, bs1, ba1] at hx697 ⊢; exact hx697) | exact hx697) ?_
            intro v700 H698 G701 w699 e702 h703
            have h704 := Rep.mono _ e702 h685
            have h705 := Rep.mono _ e702 h686
            have h706 := Rep.mono _ e702 h684
            have h707 := Rep.mono _ e702 h688
            obtain ⟨bad_708, hx709, h⟩ := bindS h
            refine x_set w699 (e_call (ea_cons (e_var (R := (rL (rL (rO rI)))) (x := meets_696) rfl h703) ea_nil)) (by first | (simp only [be1, bs1, ba1] at hx709 ⊢; exact hx709) | exact hx709) ?_
            intro v712 H710 G713 w711 e714 h715
            have h716 := Rep.mono _ e714 h704
            have h717 := Rep.mono _ e714 h705
            have h718 := Rep.mono _ e714 h706
            have h719 := Rep.mono _ e714 h707
            have h720 := Rep.mono _ e714 h703
            obtain ⟨b721, hx722, h⟩ := bindS h
            refine x_if w711 (et_T (e_op (rr_notN nnP) (e_var (R := (rO (rP rI rI))) (x := bad_708) rfl (Rep.mono _ w711.ex h715)) e_non)) hx722 ?_ ?_
            · intro hbb721 H723 w724
              subst hbb721
              have h := bifT h
              cases (show none = some _ from h)
            · intro hbb721 H725 w726
              subst hbb721
              have h := bifF h
              refine x_next ?_
              obtain ⟨f727, hx728, h⟩ := bindS h
              refine x_fldN (j := 0) w726 rfl rfl (e_var (R := (rL (rL rB))) (x := above_641) rfl h717) hx728 (T.cls 51 rfl) (T.noat 52 rfl) (by decide +kernel) (by decide) ?_
              intro H729 G730 w731 e732
              have h733 := Rep.mono _ e732 h716
              have h734 := Rep.mono _ e732 h717
              have h735 := Rep.mono _ e732 h715
              have h736 := Rep.mono _ e732 h719
              have h737 := Rep.mono _ e732 h720
              have w731 : Wo G H [l] G730 H729 [(l, cI (He.ga K "Order") ["_above"] [pd (rL (rL rB)) f727])] := w731
              obtain ⟨f738, hx739, h⟩ := bindS h
              refine x_fldN (j := 0) w731 rfl rfl (e_var (R := (rL (rL (rO rI)))) (x := joins_666) rfl h736) hx739 (T.cls 51 rfl) (T.noat 53 rfl) (by decide +kernel) (by decide) ?_
              intro H740 G741 w742 e743
              have h744 := Rep.mono _ e743 h733
              have h745 := Rep.mono _ e743 h734
              have h746 := Rep.mono _ e743 h735
              have h747 := Rep.mono _ e743 h736
              have h748 := Rep.mono _ e743 h737
              have w742 : Wo G H [l] G741 H740 [(l, cI (He.ga K "Order") ["_above", "_joins"] [pd (rL (rL rB)) f727, pd (rL (rL (rO rI))) f738])] := w742
              obtain ⟨f749, hx750, h⟩ := bindS h
              refine x_fldN (j := 0) w742 rfl rfl (e_var (R := (rL (rL (rO rI)))) (x := meets_696) rfl h748) hx750 (T.cls 51 rfl) (T.noat 54 rfl) (by decide +kernel) (by decide) ?_
              intro H751 G752 w753 e754
              have h755 := Rep.mono _ e754 h744
              have h756 := Rep.mono _ e754 h745
              have h757 := Rep.mono _ e754 h746
              have h758 := Rep.mono _ e754 h747
              have h759 := Rep.mono _ e754 h748
              have w753 : Wo G H [l] G752 H751 [(l, cI (He.ga K "Order") ["_above", "_joins", "_meets"] [pd (rL (rL rB)) f727, pd (rL (rL (rO rI))) f738, pd (rL (rL (rO rI))) f749])] := w753
              obtain ⟨f760, hx761, h⟩ := bindS h
              refine x_fldN (j := 0) w753 rfl rfl (EL.e (el_listRg (e_var (R := rI) (x := size0) rfl rfl))) hx761 (T.cls 51 rfl) (T.noat 55 rfl) (by decide +kernel) (by decide) ?_
              intro H762 G763 w764 e765
              have h766 := Rep.mono _ e765 h755
              have h767 := Rep.mono _ e765 h756
              have h768 := Rep.mono _ e765 h757
              have h769 := Rep.mono _ e765 h758
              have h770 := Rep.mono _ e765 h759
              have w764 : Wo G H [l] G763 H762 [(l, cI (He.ga K "Order") ["_above", "_joins", "_meets", "_members"] [pd (rL (rL rB)) f727, pd (rL (rL (rO rI))) f738, pd (rL (rL (rO rI))) f749, pd (rL rI) f760])] := w764
              obtain ⟨f771, hx772, h⟩ := bindS h
              refine x_fldN (j := 0) w764 rfl rfl (e_call (ea_cons (e_var (R := (rL (rL rB))) (x := above_641) rfl h767) ea_nil)) (by first | (simp only [be1, bs1, ba1] at hx772 ⊢; exact hx772) | exact hx772) (T.cls 51 rfl) (T.noat 56 rfl) (by decide +kernel) (by decide) ?_
              intro H773 G774 w775 e776
              have h777 := Rep.mono _ e776 h766
              have h778 := Rep.mono _ e776 h767
              have h779 := Rep.mono _ e776 h768
              have h780 := Rep.mono _ e776 h769
              have h781 := Rep.mono _ e776 h770
              have w775 : Wo G H [l] G774 H773 [(l, cI (He.ga K "Order") ["_above", "_joins", "_meets", "_members", "_height"] [pd (rL (rL rB)) f727, pd (rL (rL (rO rI))) f738, pd (rL (rL (rO rI))) f749, pd (rL rI) f760, pd rI f771])] := w775
              refine x_next ?_
              have h : (m_Order.mk f727 f738 f749 f760 f771) = r := Option.some.inj h
              subst h
              exact k _ _ w775.f (w775.sub1 (i := 0) rfl)
def m_Order__require_b1 (self0 : m_Order) (x797 : Int) (s787 : Unit) : Option Unit :=
  (some ((decide (x797 < (0 : Int))) || (decide ((self0.f_members.length : Int) ≤ x797))) >>= fun b805 => bif b805 then none else some (()))
def m_Order__require (self0 : m_Order) (first0 : Int) (second0 : Int) : Option Unit :=
  (some ([first0, second0]) >>= fun xs782 => forS (m_Order__require_b1 self0) xs782 () >>= fun s787 => some ())
theorem sc_Order__require : FnScope ["self", "first", "second", "value"] ["self", "first", "second"] (defScope s_Order__require) := ⟨rfl, rfl, rfl, by decide +kernel, rfl, by decide +kernel, by decide +kernel⟩
theorem ok_Order__require (T : Tx K mg) : Fm P w K mg base CX0 1 "Order" "_require" ["self", "first", "second"] (PF (aC (r_Order K) (aC rI (aC rI aN))) rU (fun i => m_Order__require i.1 i.2.1 i.2.2.1)) := by
  obtain ⟨fd, F⟩ := T.def_ 16 rfl
  have nd := sc_Order__require.nd
  refine fm_mk F (fun _ _ _ _ _ _ us hl => match us, hl with | [_, _, _], _ => rfl) (F.ok sc_Order__require (fun vs H Q E h => ?_) (fun cdv A outer s H vs Q E hr h => ?_))
  · obtain ⟨G, ⟨self0, first0, second0, ⟨⟩⟩, r, e0, ⟨vself0, _, rfl, hself0, vfirst0, _, rfl, hfirst0, vsecond0, _, rfl, hsecond0, rfl⟩, h, k⟩ := h
    rfl
  · obtain ⟨G, ⟨self0, first0, second0, ⟨⟩⟩, r, e0, ⟨vself0, _, rfl, hself0, vfirst0, _, rfl, hfirst0, vsecond0, _, rfl, hsecond0, rfl⟩, h, k⟩ := h
    cases hfirst0
    cases hsecond0
    have w0 := Wo.start e0
    have h : m_Order__require self0 first0 second0 = some r := h
    unfold m_Order__require at h
    refine ⟨_, PSs.nox (pss_cons (ps_for PassesOwn.never rfl (pi_tup (pe_tup (pa_cons (pv 1) (pa_cons (pv 2) pa_nil)))) (pg_name (i := 3) nd rfl (Or.inl rfl)) (pss_cons (ps_if (PW.pt (pw_or (pt_cmpR op_lt (pv 3) pe_int (nomark _)) (pw_or1 (pt_cmpR op_ge (pv 3) (pe_callB (r := rLn K) call_len_seq (by rfl) (fr_len T) (by decide +kernel) (pa_cons (show L2.PE _ _ (tFld K _ _) from pe_fld (pv 0) (by rfl)) pa_nil)) (nomark _))))) (pss_cons ps_never pss_nil) pss_nil) pss_nil)) pss_nil), ?_⟩
    obtain ⟨xs782, hx783, h⟩ := bindS h
    obtain ⟨t785, hx786, h⟩ := bindS h
    refine x_forT w0 (e_tupH (eal_cons (e_var (R := rI) (x := first0) rfl rfl) (eal_cons (e_var (R := rI) (x := second0) rfl rfl) eal_nil))) hx783 (fun i G' H' σ' => ∃ s787 : Unit, ∃ u788 : Option V, Wo G H [] G' H' [] ∧ Evl.Ex G G' ∧ σ' = [some vself0, some (V.int first0), some (V.int second0), u788] ∧ forS (m_Order__require_b1 self0) (xs782.drop i) s787 = some t785) (fun _ _ _ _ ⟨_, _, w, _⟩ => w.ex) ?_ ?_ ?_
    · intro G' H' w' e'
      exact ⟨(), (none), w', e', rfl, hx786⟩
    · rintro G799 e800 i796 x797 v801 σ' G792 H795 hx798 e803 ⟨s787, u788, w793, e794, rfl, hm790⟩ r802
      obtain ⟨q791, hb789, hm790⟩ := forS_at hx798 hm790
      have h804 := Rep.mono _ e794 hself0
      refine g_name ?_
      cases r802
      unfold m_Order__require_b1 at hb789
      obtain ⟨b805, hx806, hb789⟩ := bindS hb789
      refine x_if w793 (et_orP (et_T (e_op rr_lt (e_var (R := rI) (x := x797) rfl rfl) e_int)) (et_T (e_op rr_ge (e_var (R := rI) (x := x797) rfl rfl) (e_cb rc_lenL (ea_cons (e_fld 3 (fun (o : m_Order) => o.f_members) (e_var (R := (r_Order K)) (x := self0) rfl (Rep.mono _ w793.ex h804)) (T.cls 51 rfl) (T.noat 55 rfl) (by decide +kernel) (fun _ => rfl)) ea_nil))))) hx806 ?_ ?_
      · intro hbb805 H807 w808
        subst hbb805
        have hb789 := bifT hb789
        cases (show none = some _ from hb789)
      · intro hbb805 H809 w810
        subst hbb805
        have hb789 := bifF hb789
        refine x_next ?_
        refine x_next ?_
        have hb789 : () = q791 := Option.some.inj hb789
        subst hb789
        exact ⟨G792, (e803.trans (Evl.Ex.refl _)), (), (some (V.int x797)), w810, e794, rfl, hm790⟩
    · rintro σ' G811 H814 e815 ⟨s787, u788, w812, e813, rfl, hm790⟩
      have hm790 := forS_end hm790
      subst hm790
      have h817 := Rep.mono _ e813 hself0
      refine x_next ?_
      have h : () = r := Option.some.inj h
      subst h
      exact k _ _ _ w812.upE rfl
def m_Order_below (self0 : m_Order) (first0 : Int) (second0 : Int) : Option Bool :=
  (m_Order__require self0 first0 second0 >>= fun a818 => ((atI self0.f_above first0 >>= fun t822 => atI t822 second0) >>= fun a823 => some a823))
theorem sc_Order_below : FnScope ["self", "first", "second"] ["self", "first", "second"] (defScope s_Order_below) := ⟨rfl, rfl, rfl, by decide +kernel, rfl, by decide +kernel, by decide +kernel⟩
theorem ok_Order_below (T : Tx K mg) : Fm P w K mg base CX0 2 "Order" "below" ["self", "first", "second"] (PF (aC (r_Order K) (aC rI (aC rI aN))) rB (fun i => m_Order_below i.1 i.2.1 i.2.2.1)) := by
  obtain ⟨fd_Order__require, G_Order__require, b_Order__require⟩ := ok_Order__require (w := w) (base := base) T
  obtain ⟨fd, F⟩ := T.def_ 17 rfl
  have nd := sc_Order_below.nd
  refine fm_mk F (fun _ _ _ _ _ _ us hl => match us, hl with | [_, _, _], _ => rfl) (F.ok sc_Order_below (fun vs H Q E h => ?_) (fun cdv A outer s H vs Q E hr h => ?_))
  · obtain ⟨G, ⟨self0, first0, second0, ⟨⟩⟩, r, e0, ⟨vself0, _, rfl, hself0, vfirst0, _, rfl, hfirst0, vsecond0, _, rfl, hsecond0, rfl⟩, h, k⟩ := h
    rfl
  · obtain ⟨G, ⟨self0, first0, second0, ⟨⟩⟩, r, e0, ⟨vself0, _, rfl, hself0, vfirst0, _, rfl, hfirst0, vsecond0, _, rfl, hsecond0, rfl⟩, h, k⟩ := h
    cases hfirst0
    cases hsecond0
    have w0 := Wo.start e0
    have h : m_Order_below self0 first0 second0 = some r := h
    unfold m_Order_below at h
    refine ⟨_, PSs.nox (pss_cons (ps_expr (pe_meth (pv 0) (T.cls 51 rfl) (T.meth 57 rfl) G_Order__require (hr.mono (by decide)) b_Order__require .nil pass0 (pa_cons (pv 1) (pa_cons (pv 2) pa_nil)))) (pss_cons (ps_ret (pe_ix (r := rIxL K) ix_list (pe_ix (r := rIxL K) ix_list (pe_fld (pv 0) rfl) (pv 1) (fun _ _ => rfl)) (pv 2) (fun _ _ => rfl))) pss_nil)), ?_⟩
    obtain ⟨a818, hx819, h⟩ := bindS h
    refine x_call w0 (e_meth (e_var (R := (r_Order K)) (x := self0) rfl hself0) (ea_cons (e_var (R := rI) (x := first0) rfl rfl) (ea_cons (e_var (R := rI) (x := second0) rfl rfl) ea_nil)) (by decide +kernel)) (by first | (simp only [be1, bs1, ba1] at hx819 ⊢; exact hx819) | exact hx819) ?_
    intro H820 w821
    obtain ⟨a823, hx824, h⟩ := bindS h
    have h : a823 = r := Option.some.inj h
    subst h
    exact x_ret w821 (e_op rr_ixL (e_op rr_ixL (e_fld 0 (fun (o : m_Order) => o.f_above) (e_var (R := (r_Order K)) (x := self0) rfl hself0) (T.cls 51 rfl) (T.noat 52 rfl) (by decide +kernel) (fun _ => rfl)) (e_var (R := rI) (x := first0) rfl rfl)) (e_var (R := rI) (x := second0) rfl rfl)) (by first | (simp only [be1, bs1, ba1] at hx824 ⊢; exact hx824) | exact hx824) (fun v9 H9 G9 w9 e9 r9 => k v9 H9 G9 w9.upE r9)
def m__law_pot_b2 (x944 : Int) (s934 : ((List Int) × Int)) : Option ((List Int) × Int) :=
  ((some ((decide ((0 : Int) < s934.2)) || (x944 == (0 : Int))) >>= fun b947 => bif b947 then (modM s934.2 (100 : Int) >>= fun a966 => appM s934.1 a966 >>= fun pot_here_967 => some pot_here_967) else some s934.1) >>= fun s958 => (fdivM s934.2 (100 : Int) >>= fun rest_981 => some ((s958, rest_981))))
def m__law_pot_b1 (script0 : (List Int)) (x854 : Int) (s841 : (List Int)) : Option (List Int) :=
  ((atI script0 x854 >>= fun t857 => some (if t857 < 0 then -t857 else t857)) >>= fun rest_858 => (some (60 : Int) >>= fun many_862 => (((powM (10 : Int) (18 : Int) >>= fun t866 => some (decide (rest_858 < t866))) >>= fun b867 => bif b867 then ((((mulM (2 : Int) rest_858 >>= fun t901 => (((atI script0 x854 >>= fun t899 => some (decide (t899 < (0 : Int)))) >>= fun t900 => some (if t900 = true then (1 : Int) else 0)) >>= fun t902 => some (t901 + t902))) >>= fun t904 => ((mulM (2 : Int) x854 >>= fun t903 => some ((48271 : Int) + t903)) >>= fun t905 => mulM t904 t905)) >>= fun t906 => modM t906 (2147483647 : Int)) >>= fun rest_907 => (((mulM rest_907 rest_907 >>= fun t911 => (mulM rest_907 x854 >>= fun t912 => some (t911 + t912))) >>= fun t913 => modM t913 (2147483629 : Int)) >>= fun rest_914 => (some (4 : Int) >>= fun many_918 => some (many_918, rest_914)))) else some (many_862, rest_858)) >>= fun s891 => (some s891.1 >>= fun n927 => rngM 0 n927 >>= fun xs929 => forS (m__law_pot_b2) xs929 (s841, s891.2) >>= fun s934 => some (s934.1)))))
def m__law_pot (script0 : (List Int)) : Option (List Int) :=
  (some ([]) >>= fun pot_here_825 => (some (if (63 : Int) < (script0.length : Int) then (63 : Int) else (script0.length : Int)) >>= fun n834 => rngM 0 n834 >>= fun xs836 => forS (m__law_pot_b1 script0) xs836 pot_here_825 >>= fun s841 => (some (s841.reverse) >>= fun pot_here_997 => some s841.reverse)))
theorem sc__law_pot : FnScope ["_law_script", "_law_pot_here", "_law_place", "_law_rest", "_law_many", "_law_k"] ["_law_script"] (defScope s__law_pot) := ⟨rfl, rfl, rfl, by decide +kernel, rfl, by decide +kernel, by decide +kernel⟩
theorem ok__law_pot (T : Tx K mg) : Fk P w K mg base CX0 1 "_law_pot" ["_law_script"] (PL (aC (rScr K) aN) rI (fun i => m__law_pot i.1)) := by
  obtain ⟨fd, F⟩ := T.def_ 18 rfl
  have nd := sc__law_pot.nd
  refine fk_mk T.toTx (x := "_law_pot") (T.glo 23 rfl) F (fun _ _ _ _ _ _ us hl => match us, hl with | [_], _ => rfl) (F.ok sc__law_pot (fun vs H Q E h => ?_) (fun cdv A outer s H vs Q E hr h => ?_))
  · obtain ⟨G, ⟨script0, ⟨⟩⟩, r, e0, ⟨vscript0, _, rfl, hscript0, rfl⟩, h, k⟩ := h
    rfl
  · obtain ⟨G, ⟨script0, ⟨⟩⟩, r, e0, ⟨vscript0, _, rfl, hscript0, rfl⟩, h, k⟩ := h
    have w0 := Wo.start e0
    have h : m__law_pot script0 = some r := h
    unfold m__law_pot at h
    refine ⟨_, PSs.nox (pss_cons (ps_set (i := 1) nd rfl (Or.inl rfl) (pe_lst pa_nil)) (pss_cons (ps_for PassesOwn.never rfl (pi_range1 (by rfl) (fr_range T) (pa_cons (pe_callB (call_min2 rfl) (by rfl) (fr_min T) (by decide +kernel) (pa_cons (pe_callB (r := rLn K) call_len_seq (by rfl) (fr_len T) (by decide +kernel) (pa_cons (pv 0) pa_nil)) (pa_cons pe_int pa_nil))) pa_nil)) (pg_name (i := 2) nd rfl (Or.inl rfl)) (pss_cons (ps_set (i := 3) nd rfl (Or.inl rfl) (pe_callB call_abs (by rfl) (fr_abs T) (by decide +kernel) (pa_cons (pe_ix (r := rIxL K) ix_list (pv 0) (pv 2) (fun _ _ => rfl)) pa_nil))) (pss_cons (ps_set (i := 4) nd rfl (Or.inl rfl) pe_int) (Evl.pss_cut (ps_if (pt_cmpR op_lt (pv 3) (pe_op op_pow pe_int pe_int) (nomark _)) (pss_cons (ps_set (i := 3) nd rfl (Or.inl rfl) (pe_op op_mod (pe_callTy call_int1 (by rfl) (fr_int T) (by decide +kernel) (pa_cons (pe_op op_mul (pe_op op_add (pe_op op_mul pe_int (pv 3)) (pe_callTy call_int1 (by rfl) (fr_int T) (by decide +kernel) (pa_cons (pe_cmpR op_lt (pe_ix (r := rIxL K) ix_list (pv 0) (pv 2) (fun _ _ => rfl)) pe_int (nomark _)) pa_nil))) (pe_op op_add pe_int (pe_op op_mul pe_int (pv 2)))) pa_nil)) pe_int)) (pss_cons (ps_set (i := 3) nd rfl (Or.inl rfl) (pe_op op_mod (pe_callTy call_int1 (by rfl) (fr_int T) (by decide +kernel) (pa_cons (pe_op op_add (pe_op op_mul (pv 3) (pv 3)) (pe_op op_mul (pv 3) (pv 2))) pa_nil)) pe_int)) (pss_cons (ps_set (i := 4) nd rfl (Or.inl rfl) pe_int) pss_nil))) pss_nil) (pss_cons (ps_for PassesOwn.never rfl (pi_range1 (by rfl) (fr_range T) (pa_cons (pv 4) pa_nil)) (pg_name (i := 5) nd rfl (Or.inl rfl)) (Evl.pss_cut (ps_if (PW.pt (pw_or (pt_cmpR op_gt (pv 3) pe_int (nomark _)) (pw_or1 (pt_cmpR op_eq (pv 5) pe_int (nomark _))))) (pss_cons (ps_expr (pe_bm PySem.F.plainAttrs_list PySem.F.slot_list_append PySem.F.type_list_append mt_append (pv 1) (pa_cons (pe_op op_mod (pe_callTy call_int1 (by rfl) (fr_int T) (by decide +kernel) (pa_cons (pv 3) pa_nil)) pe_int) pa_nil))) pss_nil) pss_nil) (pss_cons (ps_set (i := 3) nd rfl (Or.inl rfl) (pe_op op_fdiv (pv 3) pe_int)) pss_nil))) pss_nil))))) (pss_cons (ps_expr (pe_bm0 PySem.F.plainAttrs_list PySem.F.slot_list_reverse PySem.F.type_list_reverse mt_reverse (pv 1))) (pss_cons (ps_ret (pv 1)) pss_nil)))), ?_⟩
    obtain ⟨pot_here_825, hx826, h⟩ := bindS h
    refine x_setL w0 (el_disp (R := rI) eal_nil) hx826 ?_
    intro p829 H827 G830 n831 w828 e832
    have h833 := Rep.mono _ e832 hscript0
    obtain ⟨n834, hx835, h⟩ := bindS h
    obtain ⟨xs836, hx837, h⟩ := bindS h
    obtain ⟨t839, hx840, h⟩ := bindS h
    refine x_forR w828 (ea_cons (Sim.E.is (e_cb rc_min2 (ea_cons (e_cb rc_lenScr (ea_cons (e_var (R := (rScr K)) (x := script0) rfl h833) ea_nil)) (ea_cons e_int ea_nil))) hx835) ea_nil) rfl hx837 (fun i G' H' σ' => ∃ s841 : (List Int), ∃ u842 : Option V, ∃ u843 : Option V, ∃ u844 : Option V, ∃ u845 : Option V, Wo G H [] G' H' [(p829, cL rI s841)] ∧ Evl.Ex G830 G' ∧ σ' = [some vscript0, some (V.ref p829), u844, u845, u843, u842] ∧ forS (m__law_pot_b1 script0) (xs836.drop i) s841 = some t839) ?_ ?_ ?_
    · intro G' H' w' e'
      exact ⟨pot_here_825, (none), (none), (none), (none), w', e', rfl, hx840⟩
    · rintro i853 x854 σ' G849 H852 hx855 ⟨s841, u842, u843, u844, u845, w850, e851, rfl, hm847⟩
      obtain ⟨q848, hb846, hm847⟩ := forS_at hx855 hm847
      have h856 := Rep.mono _ e851 h833
      refine g_name ?_
      unfold m__law_pot_b1 at hb846
      obtain ⟨rest_858, hx859, hb846⟩ := bindS hb846
      refine x_setI w850 (e_cb rc_abs (ea_cons (e_op rr_ixScr (e_var (R := (rScr K)) (x := script0) rfl h856) (e_var (R := rI) (x := x854) rfl rfl)) ea_nil)) (by first | (simp only [be1, bs1, ba1] at hx859 ⊢; exact hx859) | exact hx859) ?_
      intro H860 w861
      obtain ⟨many_862, hx863, hb846⟩ := bindS hb846
      refine x_setI w861 e_int hx863 ?_
      intro H864 w865
      obtain ⟨s891, hx892, hb846⟩ := bindS hb846
      refine o_cut (fun σ' H' => ∃ G' : Hp, Wo G H [] G' H' [(p829, cL rI s841)] ∧ Evl.Ex G849 G' ∧ σ' = [some vscript0, some (V.ref p829), some (V.int x854), some (V.int s891.2), some (V.int s891.1), u842]) ?_ ?_
      · obtain ⟨b867, hx896, hx892⟩ := bindS hx892
        refine x_if w865 (et_T (e_op rr_lt (e_var (R := rI) (x := rest_858) rfl rfl) (e_op rr_pow e_int e_int))) (by first | (simp only [be1, bs1, ba1] at hx896 ⊢; exact hx896) | exact hx896) ?_ ?_
        · intro hbb867 H897 w898
          subst hbb867
          have hx892 := bifT hx892
          obtain ⟨rest_907, hx908, hx892⟩ := bindS hx892
          refine x_setI w898 (e_op rr_mod (e_cb rc_intI (ea_cons (e_op rr_mul (e_op rr_add (e_op rr_mul e_int (e_var (R := rI) (x := rest_858) rfl rfl)) (e_cb rc_intB (ea_cons (e_op rr_lt (e_op rr_ixScr (e_var (R := (rScr K)) (x := script0) rfl h856) (e_var (R := rI) (x := x854) rfl rfl)) e_int) ea_nil))) (e_op rr_add e_int (e_op rr_mul e_int (e_var (R := rI) (x := x854) rfl rfl)))) ea_nil)) e_int) (by first | (simp only [be1, bs1, ba1] at hx908 ⊢; exact hx908) | exact hx908) ?_
          intro H909 w910
          obtain ⟨rest_914, hx915, hx892⟩ := bindS hx892
          refine x_setI w910 (e_op rr_mod (e_cb rc_intI (ea_cons (e_op rr_add (e_op rr_mul (e_var (R := rI) (x := rest_907) rfl rfl) (e_var (R := rI) (x := rest_907) rfl rfl)) (e_op rr_mul (e_var (R := rI) (x := rest_907) rfl rfl) (e_var (R := rI) (x := x854) rfl rfl))) ea_nil)) e_int) (by first | (simp only [be1, bs1, ba1] at hx915 ⊢; exact hx915) | exact hx915) ?_
          intro H916 w917
          obtain ⟨many_918, hx919, hx892⟩ := bindS hx892
          refine x_setI w917 e_int hx919 ?_
          intro H920 w921
          refine x_next ?_
          have hx892 : (many_918, rest_914) = s891 := Option.some.inj hx892
          subst hx892
          exact ⟨G849, w921, (Evl.Ex.refl _), rfl⟩
        · intro hbb867 H922 w923
          subst hbb867
          have hx892 := bifF hx892
          refine x_next ?_
          have hx892 : (many_862, rest_858) = s891 := Option.some.inj hx892
          subst hx892
          exact ⟨G849, w923, (Evl.Ex.refl _), rfl⟩
      · rintro σ' H926 ⟨G924, w894, e893, rfl⟩
        have h925 := Rep.mono _ e893 h856
        obtain ⟨n927, hx928, hb846⟩ := bindS hb846
        obtain ⟨xs929, hx930, hb846⟩ := bindS hb846
        obtain ⟨t932, hx933, hb846⟩ := bindS hb846
        refine x_forR w894 (ea_cons (Sim.E.is (e_var (R := rI) (x := s891.1) rfl rfl) hx928) ea_nil) rfl hx930 (fun i G' H' σ' => ∃ s934 : ((List Int) × Int), ∃ u935 : Option V, Wo G H [] G' H' [(p829, cL rI s934.1)] ∧ Evl.Ex G924 G' ∧ σ' = [some vscript0, some (V.ref p829), some (V.int x854), some (V.int s934.2), some (V.int s891.1), u935] ∧ forS (m__law_pot_b2) (xs929.drop i) s934 = some t932) ?_ ?_ ?_
        · intro G' H' w' e'
          exact ⟨(s841, s891.2), (u842), w', e', rfl, hx933⟩
        · rintro i943 x944 σ' G939 H942 hx945 ⟨s934, u935, w940, e941, rfl, hm937⟩
          obtain ⟨q938, hb936, hm937⟩ := forS_at hx945 hm937
          have h946 := Rep.mono _ e941 h925
          refine g_name ?_
          unfold m__law_pot_b2 at hb936
          obtain ⟨s958, hx959, hb936⟩ := bindS hb936
          refine o_cut (fun σ' H' => ∃ G' : Hp, Wo G H [] G' H' [(p829, cL rI s958)] ∧ Evl.Ex G939 G' ∧ σ' = [some vscript0, some (V.ref p829), some (V.int x854), some (V.int s934.2), some (V.int s891.1), some (V.int x944)]) ?_ ?_
          · obtain ⟨b947, hx963, hx959⟩ := bindS hx959
            refine x_if w940 (et_orP (et_T (e_op rr_gt (e_var (R := rI) (x := s934.2) rfl rfl) e_int)) (et_T (e_op rr_eqI (e_var (R := rI) (x := x944) rfl rfl) e_int))) hx963 ?_ ?_
            · intro hbb947 H964 w965
              subst hbb947
              have hx959 := bifT hx959
              obtain ⟨a966, hx968, hx959⟩ := bindS hx959
              obtain ⟨pot_here_967, hx969, hx959⟩ := bindS hx959
              obtain ⟨hs970, rfl⟩ := appM_ok hx969
              refine x_app (j := 0) w965 rfl hs970 rfl (e_op rr_mod (e_cb rc_intI (ea_cons (e_var (R := rI) (x := s934.2) rfl rfl) ea_nil)) e_int) (by first | (simp only [be1, bs1, ba1] at hx968 ⊢; exact hx968) | exact hx968) ?_
              intro H971 G972 w973 e974
              have h975 := Rep.mono _ e974 h946
              have w973 : Wo G H [] G972 H971 [(p829, cL rI (s934.1 ++ [a966]))] := w973
              refine x_next ?_
              have hx959 : (s934.1 ++ [a966]) = s958 := Option.some.inj hx959
              subst hx959
              exact ⟨G972, w973, e974, rfl⟩
            · intro hbb947 H976 w977
              subst hbb947
              have hx959 := bifF hx959
              refine x_next ?_
              have hx959 : s934.1 = s958 := Option.some.inj hx959
              subst hx959
              exact ⟨G939, w977, (Evl.Ex.refl _), rfl⟩
          · rintro σ' H980 ⟨G978, w961, e960, rfl⟩
            have h979 := Rep.mono _ e960 h946
            obtain ⟨rest_981, hx982, hb936⟩ := bindS hb936
            refine x_setI w961 (e_op rr_fdiv (e_var (R := rI) (x := s934.2) rfl rfl) e_int) (by first | (simp only [be1, bs1, ba1] at hx982 ⊢; exact hx982) | exact hx982) ?_
            intro H983 w984
            refine x_next ?_
            have hb936 : (s958, rest_981) = q938 := Option.some.inj hb936
            subst hb936
            exact ⟨G978, (s958, rest_981), (some (V.int x944)), w984, (e941.trans e960), rfl, hm937⟩
        · rintro σ' G985 H988 ⟨s934, u935, w986, e987, rfl, hm937⟩
          have hm937 := forS_end hm937
          subst hm937
          have h990 := Rep.mono _ e987 h925
          refine x_next ?_
          have hb846 : s934.1 = q848 := Option.some.inj hb846
          subst hb846
          exact ⟨G985, s934.1, (u935), (some (V.int s891.1)), (some (V.int x854)), (some (V.int s934.2)), w986, ((e851.trans e893).trans e987), rfl, hm847⟩
    · rintro σ' G991 H994 ⟨s841, u842, u843, u844, u845, w992, e993, rfl, hm847⟩
      have hm847 := forS_end hm847
      subst hm847
      have h996 := Rep.mono _ e993 h833
      refine x_drop ?_
      obtain ⟨pot_here_997, hx998, h⟩ := bindS h
      cases hx998
      refine o_bm0 (j := 0) w992 rfl rfl (c_rev (j := 0) w992 rfl ?_)
      intro H999 w1000
      have w1000 : Wo G H [] G991 H999 [(p829, cL rI s841.reverse)] := w1000
      have h : s841.reverse = r := Option.some.inj h
      subst h
      refine x_retO (o_var rfl ?_)
      exact k _ _ _ n831 w1000.upE (w1000.sub1 (i := 0) rfl)
def m__law_draw (pot_here0 : (List Int)) (many0 : Int) : Option (Int × (List Int)) :=
  (some ((pot_here0.length : Int) == (0 : Int)) >>= fun b1001 => bif b1001 then (some (0 : Int) >>= fun a1005 => some (a1005, pot_here0)) else (popM pot_here0 >>= fun x1009 => (some many0 >>= fun x1016 => (modM x1009.1 x1016 >>= fun x1020 => some (x1020, x1009.2)))))
theorem sc__law_draw : FnScope ["_law_pot_here", "_law_many"] ["_law_pot_here", "_law_many"] (defScope s__law_draw) := ⟨rfl, rfl, rfl, by decide +kernel, rfl, by decide +kernel, by decide +kernel⟩
theorem ok__law_draw (T : Tx K mg) : Fk P w K mg base CX0 1 "_law_draw" ["_law_pot_here", "_law_many"] (P1 (aC rI aN) rI rI (fun ys i => m__law_draw ys i.1)) := by
  obtain ⟨fd, F⟩ := T.def_ 19 rfl
  have nd := sc__law_draw.nd
  refine fk_mk T.toTx (x := "_law_draw") (T.glo 24 rfl) F (fun _ _ _ _ _ _ us hl => match us, hl with | [_, _], _ => rfl) (F.ok sc__law_draw (fun vs H Q E h => ?_) (fun cdv A outer s H vs Q E hr h => ?_))
  · obtain ⟨G, ⟨l, ⟨many0, ⟨⟩⟩⟩, pot_here0, r, k', ⟨_, _, rfl, rfl, ⟨vmany0, _, rfl, hmany0, rfl⟩⟩, wd, h, k⟩ := h
    rfl
  · obtain ⟨G, ⟨l, ⟨many0, ⟨⟩⟩⟩, pot_here0, r, k', ⟨_, _, rfl, rfl, ⟨vmany0, _, rfl, hmany0, rfl⟩⟩, wd, h, k⟩ := h
    cases hmany0
    have e0 : Evl.Ex G H := wd.ex
    have w0 : Wo G H [l] G H _ := Wo.startC wd
    have h : m__law_draw pot_here0 many0 = some (r, k') := h
    unfold m__law_draw at h
    refine ⟨_, PSs.nox (pss_cons (ps_if (pt_cmpR op_eq (pe_callB (r := rLn K) call_len_seq (by rfl) (fr_len T) (by decide +kernel) (pa_cons (pv 0) pa_nil)) pe_int (nomark _)) (pss_cons (ps_ret pe_int) pss_nil) pss_nil) (pss_cons (ps_ret (pe_op op_mod (pe_callTy call_int1 (by rfl) (fr_int T) (by decide +kernel) (pa_cons (pe_bm0 PySem.F.plainAttrs_list PySem.F.slot_list_pop PySem.F.type_list_pop mt_pop (pv 0)) pa_nil)) (pv 1))) pss_nil)), ?_⟩
    obtain ⟨b1001, hx1002, h⟩ := bindS h
    refine x_if w0 (et_T (e_op rr_eqI (e_cb rc_lenL (ea_cons (e_var (R := (rL rI)) (x := pot_here0) rfl (w0.rlAt (i := 0) rfl)) ea_nil)) e_int)) hx1002 ?_ ?_
    · intro hbb1001 H1003 w1004
      subst hbb1001
      have h := bifT h
      obtain ⟨a1005, hx1006, h⟩ := bindS h
      obtain ⟨h8, h9⟩ : a1005 = r ∧ pot_here0 = k' := Prod.mk.inj (Option.some.inj h)
      subst h8
      subst h9
      exact x_ret w1004 e_int hx1006 (fun v9 H9 G9 w9 e9 r9 => k v9 H9 G9 w9.f (w9.sub1 (i := 0) rfl) r9)
    · intro hbb1001 H1007 w1008
      subst hbb1001
      have h := bifF h
      refine x_next ?_
      refine x_retO ?_
      refine o_op ?_
      refine o_cb ?_
      refine o_cons ?_
      obtain ⟨x1009, hx1010, h⟩ := bindS h
      refine o_bm0 (j := 0) w1008 rfl rfl (c_pop (j := 0) w1008 rfl hx1010 ?_)
      intro v1011 H1012 w1013 r1014
      cases r1014
      have w1013 : Wo G H [l] G H1012 [(l, cL rI x1009.2)] := w1013
      refine o_nil ?_
      refine Or.inl ⟨_, rfl, ?_⟩
      obtain ⟨x1016, hx1017, h⟩ := bindS h
      refine c_i w1013 (e_var (R := rI) (x := many0) rfl rfl) hx1017 ?_
      intro H1018 w1019
      obtain ⟨x1020, hx1021, h⟩ := bindS h
      refine c_rr rr_mod w1019 rfl rfl hx1021 ?_
      intro u1022 H1023 G1024 w1025 e1026 r1027
      cases r1027
      obtain ⟨h8, h9⟩ : x1020 = r ∧ x1009.2 = k' := Prod.mk.inj (Option.some.inj h)
      subst h8
      subst h9
      exact k _ _ _ w1025.f (w1025.sub1 (i := 0) rfl) rfl
def m__law_masks_b2 (x1106 : (Int × (List Int))) (x1139 : Int) (s1129 : (List Int)) : Option (List Int) :=
  ((some (!s1129.any fun z => z == (Builtin.bitAnd x1139 x1106.1)) >>= fun b1147 => bif b1147 then (some (Builtin.bitAnd x1139 x1106.1) >>= fun a1166 => appM s1129 a1166 >>= fun more_1167 => some more_1167) else some s1129) >>= fun s1158 => some (s1158))
def m__law_masks_b1 (most0 : Int) (x1099 : Int) (s1084 : ((List Int) × (List Int))) : Option ((List Int) × (List Int)) :=
  (some (32 : Int) >>= fun x1101 => (m__law_draw s1084.2 x1101 >>= fun x1106 => (some s1084.1 >>= fun more_1115 => (some s1084.1 >>= fun xs1124 => forS (m__law_masks_b2 x1106) xs1124 more_1115 >>= fun s1129 => ((some (decide ((s1129.length : Int) ≤ most0)) >>= fun b1193 => bif b1193 then (some s1129 >>= fun masks_here_1214 => some masks_here_1214) else some s1084.1) >>= fun s1204 => some ((s1204, x1106.2)))))))
def m__law_masks_b3 (x1273 : Int) (s1263 : ((List Int) × ((List Int) × (List Int)))) : Option ((List Int) × ((List Int) × (List Int))) :=
  (some (s1263.2.2.length : Int) >>= fun x1275 => (m__law_draw s1263.2.1 x1275 >>= fun x1280 => (popAtM s1263.2.2 x1280.1 >>= fun x1289 => (appM s1263.1 x1289.1 >>= fun masks_here_1296 => some ((masks_here_1296, (x1280.2, x1289.2)))))))
def m__law_masks (pot_here0 : (List Int)) (most0 : Int) : Option ((List Int) × (List Int)) :=
  (some ([(31 : Int)]) >>= fun masks_here_1028 => (some (6 : Int) >>= fun x1036 => (m__law_draw pot_here0 x1036 >>= fun x1041 => (some (1 : Int) >>= fun x1051 => (some (x1041.1 + x1051) >>= fun x1055 => (some (6 : Int) >>= fun x1065 => (modM x1055 x1065 >>= fun x1069 => (rngM 0 x1069 >>= fun xs1079 => forS (m__law_masks_b1 most0) xs1079 (masks_here_1028, x1041.2) >>= fun s1084 => ((if s1084.1.length < 64 then some (srtI s1084.1) else none) >>= fun rest_1234 => (some (rest_1234.length : Int) >>= fun size_1243 => (some ([]) >>= fun masks_here_1247 => (some size_1243 >>= fun n1256 => rngM 0 n1256 >>= fun xs1258 => forS (m__law_masks_b3) xs1258 (masks_here_1247, (s1084.2, rest_1234)) >>= fun s1263 => some (s1263.1, s1263.2.1)))))))))))))
theorem sc__law_masks : FnScope ["_law_pot_here", "_law_most", "_law_masks_here", "_law_k", "_law_rest", "_law_size", "_law_mask", "_law_more", "_law_old"] ["_law_pot_here", "_law_most"] (defScope s__law_masks) := ⟨rfl, rfl, rfl, by decide +kernel, rfl, by decide +kernel, by decide +kernel⟩
theorem ok__law_masks (T : Tx K mg) : Fk P w K mg base CX0 2 "_law_masks" ["_law_pot_here", "_law_most"] (P1L (aC rI aN) rI rI (fun ys i => m__law_masks ys i.1)) := by
  obtain ⟨fd__law_draw, G__law_draw, b__law_draw, k__law_draw, g__law_draw⟩ := ok__law_draw (w := w) (base := base) T
  obtain ⟨fd, F⟩ := T.def_ 21 rfl
  have nd := sc__law_masks.nd
  refine fk_mk T.toTx (x := "_law_masks") (T.glo 26 rfl) F (fun _ _ _ _ _ _ us hl => match us, hl with | [_, _], _ => rfl) (F.ok sc__law_masks (fun vs H Q E h => ?_) (fun cdv A outer s H vs Q E hr h => ?_))
  · obtain ⟨G, ⟨l, ⟨most0, ⟨⟩⟩⟩, pot_here0, r, k', ⟨_, _, rfl, rfl, ⟨vmost0, _, rfl, hmost0, rfl⟩⟩, wd, h, k⟩ := h
    rfl
  · obtain ⟨G, ⟨l, ⟨most0, ⟨⟩⟩⟩, pot_here0, r, k', ⟨_, _, rfl, rfl, ⟨vmost0, _, rfl, hmost0, rfl⟩⟩, wd, h, k⟩ := h
    cases hmost0
    have e0 : Evl.Ex G H := wd.ex
    have w0 : Wo G H [l] G H _ := Wo.startC wd
    have h : m__law_masks pot_here0 most0 = some (r, k') := h
    unfold m__law_masks at h
    refine ⟨_, PSs.nox (pss_cons (ps_set (i := 2) nd rfl (Or.inl rfl) (pe_lst (pa_cons pe_int pa_nil))) (pss_cons (ps_for PassesOwn.never rfl (pi_range1 (by rfl) (fr_range T) (pa_cons (pe_op op_mod (pe_callTy call_int1 (by rfl) (fr_int T) (by decide +kernel) (pa_cons (pe_op op_add (pe_call G__law_draw (hr.mono (by decide)) rfl g__law_draw k__law_draw b__law_draw .nil pass0 (pa_cons (pv 0) (pa_cons pe_int pa_nil))) pe_int) pa_nil)) pe_int) pa_nil)) (pg_name (i := 3) nd rfl (Or.inl rfl)) (pss_cons (ps_set (i := 6) nd rfl (Or.inl rfl) (pe_call G__law_draw (hr.mono (by decide)) rfl g__law_draw k__law_draw b__law_draw .nil pass0 (pa_cons (pv 0) (pa_cons pe_int pa_nil)))) (pss_cons (ps_set (i := 7) nd rfl (Or.inl rfl) (pe_callTy (r := rLs K) call_list_of (by rfl) (fr_list T) (by decide +kernel) (pa_cons (pv 2) pa_nil))) (pss_cons (ps_for PassesOwn.never rfl (pi_list (pv 2)) (pg_name (i := 8) nd rfl (Or.inl rfl)) (Evl.pss_cut (ps_if (pt_cmpR (r := rIn K true) op_notIn_seq (pe_op op_and (pv 8) (pv 6)) (pv 7) (by rfl)) (pss_cons (ps_expr (pe_bm PySem.F.plainAttrs_list PySem.F.slot_list_append PySem.F.type_list_append mt_append (pv 7) (pa_cons (pe_op op_and (pv 8) (pv 6)) pa_nil))) pss_nil) pss_nil) pss_nil)) (Evl.pss_cut (ps_if (pt_cmpR op_le (pe_callB (r := rLn K) call_len_seq (by rfl) (fr_len T) (by decide +kernel) (pa_cons (pv 7) pa_nil)) (pv 1) (nomark _)) (pss_cons (ps_set (i := 2) nd rfl (Or.inl rfl) (pe_callTy (r := rLs K) call_list_of (by rfl) (fr_list T) (by decide +kernel) (pa_cons (pv 7) pa_nil))) pss_nil) pss_nil) pss_nil))))) (pss_cons (ps_set (i := 4) nd rfl (Or.inl rfl) (pe_callB (r := rSorted K) cr_sorted (by rfl) (fr_sorted T) (by decide +kernel) (pa_cons (pv 2) pa_nil))) (pss_cons (ps_set (i := 5) nd rfl (Or.inl rfl) (pe_callB (r := rLn K) call_len_seq (by rfl) (fr_len T) (by decide +kernel) (pa_cons (pv 4) pa_nil))) (pss_cons (ps_set (i := 2) nd rfl (Or.inl rfl) (pe_lst pa_nil)) (pss_cons (ps_for PassesOwn.never rfl (pi_range1 (by rfl) (fr_range T) (pa_cons (pv 5) pa_nil)) (pg_name (i := 3) nd rfl (Or.inl rfl)) (pss_cons (ps_expr (pe_bm PySem.F.plainAttrs_list PySem.F.slot_list_append PySem.F.type_list_append mt_append (pv 2) (pa_cons (pe_bm PySem.F.plainAttrs_list PySem.F.slot_list_pop PySem.F.type_list_pop mt_popAt (pv 4) (pa_cons (pe_call G__law_draw (hr.mono (by decide)) rfl g__law_draw k__law_draw b__law_draw .nil pass0 (pa_cons (pv 0) (pa_cons (pe_callB (r := rLn K) call_len_seq (by rfl) (fr_len T) (by decide +kernel) (pa_cons (pv 4) pa_nil)) pa_nil))) pa_nil)) pa_nil))) pss_nil)) (pss_cons (ps_ret (pv 2)) pss_nil))))))), ?_⟩
    obtain ⟨masks_here_1028, hx1029, h⟩ := bindS h
    refine x_set w0 (EL.e (el_disp (eal_cons e_int eal_nil))) hx1029 ?_
    intro v1032 H1030 G1033 w1031 e1034 h1035
    refine o_forR ?_
    refine o_cons ?_
    refine o_op ?_
    refine o_cb ?_
    refine o_cons ?_
    refine o_op ?_
    refine o_call ?_
    refine o_cons ?_
    refine o_var rfl ?_
    refine o_cons ?_
    obtain ⟨x1036, hx1037, h⟩ := bindS h
    refine c_i w1031 e_int hx1037 ?_
    intro H1038 w1039
    refine o_nil ?_
    obtain ⟨x1041, hx1042, h⟩ := bindS h
    refine c_p1 (i := 0) (j := (x1036, ())) w1039 rfl ⟨_, _, rfl, rfl, rfl⟩ hx1042 ?_
    intro u1043 H1044 G1045 w1046 e1047 r1048
    have h1049 := Rep.mono _ e1047 h1035
    cases r1048
    have w1046 : Wo G H [l] G1045 H1044 [(l, cL rI x1041.2)] := w1046
    obtain ⟨x1051, hx1052, h⟩ := bindS h
    refine c_i w1046 e_int hx1052 ?_
    intro H1053 w1054
    obtain ⟨x1055, hx1056, h⟩ := bindS h
    refine c_rr rr_add w1054 rfl rfl hx1056 ?_
    intro u1057 H1058 G1059 w1060 e1061 r1062
    have h1063 := Rep.mono _ e1061 h1049
    cases r1062
    refine o_nil ?_
    refine Or.inl ⟨_, rfl, ?_⟩
    obtain ⟨x1065, hx1066, h⟩ := bindS h
    refine c_i w1060 e_int hx1066 ?_
    intro H1067 w1068
    obtain ⟨x1069, hx1070, h⟩ := bindS h
    refine c_rr rr_mod w1068 rfl rfl hx1070 ?_
    intro u1071 H1072 G1073 w1074 e1075 r1076
    have h1077 := Rep.mono _ e1075 h1063
    cases r1076
    refine o_nil ?_
    obtain ⟨xs1079, hx1080, h⟩ := bindS h
    obtain ⟨t1082, hx1083, h⟩ := bindS h
    refine v_forR w1074 hx1080 (fun i G' H' σ' => ∃ s1084 : ((List Int) × (List Int)), ∃ v1085 : V, ∃ u1087 : Option V, ∃ u1088 : Option V, ∃ u1089 : Option V, ∃ u1090 : Option V, Wo G H [l] G' H' [(l, cL rI s1084.2)] ∧ Evl.Ex G1073 G' ∧ σ' = [some (V.ref l), some (V.int most0), some v1085, u1087, none, none, u1088, u1089, u1090] ∧ (rL rI).r G' v1085 s1084.1 ∧ forS (m__law_masks_b1 most0) (xs1079.drop i) s1084 = some t1082) ?_ ?_ ?_
    · exact ⟨(masks_here_1028, x1041.2), v1032, (none), (none), (none), (none), w1074, (Evl.Ex.refl _), rfl, (Rep.mono _ (Evl.Ex.refl _) h1077), hx1083⟩
    · rintro i1098 x1099 σ' G1094 H1097 hx1100 ⟨s1084, v1085, u1087, u1088, u1089, u1090, w1095, e1096, rfl, h1086, hm1092⟩
      obtain ⟨q1093, hb1091, hm1092⟩ := forS_at hx1100 hm1092
      refine g_name ?_
      unfold m__law_masks_b1 at hb1091
      refine x_setO ?_
      refine o_call ?_
      refine o_cons ?_
      refine o_var rfl ?_
      refine o_cons ?_
      obtain ⟨x1101, hx1102, hb1091⟩ := bindS hb1091
      refine c_i w1095 e_int hx1102 ?_
      intro H1103 w1104
      refine o_nil ?_
      obtain ⟨x1106, hx1107, hb1091⟩ := bindS hb1091
      refine c_p1 (i := 0) (j := (x1101, ())) w1104 rfl ⟨_, _, rfl, rfl, rfl⟩ hx1107 ?_
      intro u1108 H1109 G1110 w1111 e1112 r1113
      have h1114 := Rep.mono _ e1112 h1086
      cases r1113
      have w1111 : Wo G H [l] G1110 H1109 [(l, cL rI x1106.2)] := w1111
      obtain ⟨more_1115, hx1116, hb1091⟩ := bindS hb1091
      refine x_setL w1111 (el_cb rc_listL (ea_cons (e_var (R := (rL rI)) (x := s1084.1) rfl h1114) ea_nil)) hx1116 ?_
      intro p1119 H1117 G1120 n1121 w1118 e1122
      have h1123 := Rep.mono _ e1122 h1114
      obtain ⟨xs1124, hx1125, hb1091⟩ := bindS hb1091
      obtain ⟨t1127, hx1128, hb1091⟩ := bindS hb1091
      refine x_forL w1118 (e_var (R := (rL rI)) (x := s1084.1) rfl h1123) hx1125 (fun i G' H' σ' => ∃ s1129 : (List Int), ∃ u1130 : Option V, Wo G H [l] G' H' [(p1119, cL rI s1129), (l, cL rI x1106.2)] ∧ Evl.Ex G1120 G' ∧ σ' = [some (V.ref l), some (V.int most0), some v1085, some (V.int x1099), none, none, some (V.int x1106.1), some (V.ref p1119), u1130] ∧ forS (m__law_masks_b2 x1106) (xs1124.drop i) s1129 = some t1127) (fun _ _ _ _ ⟨_, _, w, _⟩ => w.ex) ?_ ?_ ?_
      · intro G' H' w' e'
        exact ⟨more_1115, (u1090), w', e', rfl, hx1128⟩
      · rintro G1141 e1142 i1138 x1139 v1143 σ' G1134 H1137 hx1140 e1145 ⟨s1129, u1130, w1135, e1136, rfl, hm1132⟩ r1144
        obtain ⟨q1133, hb1131, hm1132⟩ := forS_at hx1140 hm1132
        have h1146 := Rep.mono _ e1136 h1123
        refine g_name ?_
        cases r1144
        unfold m__law_masks_b2 at hb1131
        obtain ⟨s1158, hx1159, hb1131⟩ := bindS hb1131
        refine o_cut (fun σ' H' => ∃ G' : Hp, Wo G H [l] G' H' [(p1119, cL rI s1158), (l, cL rI x1106.2)] ∧ Evl.Ex G1134 G' ∧ σ' = [some (V.ref l), some (V.int most0), some v1085, some (V.int x1099), none, none, some (V.int x1106.1), some (V.ref p1119), some (V.int x1139)]) ?_ ?_
        · obtain ⟨b1147, hx1163, hx1159⟩ := bindS hx1159
          refine x_if w1135 (et_T (e_op (rr_ninL flI) (e_op rr_and (e_var (R := rI) (x := x1139) rfl rfl) (e_var (R := rI) (x := x1106.1) rfl rfl)) (e_var (R := (rL rI)) (x := s1129) rfl (w1135.rlAt (i := 0) rfl)))) hx1163 ?_ ?_
          · intro hbb1147 H1164 w1165
            subst hbb1147
            have hx1159 := bifT hx1159
            obtain ⟨a1166, hx1168, hx1159⟩ := bindS hx1159
            obtain ⟨more_1167, hx1169, hx1159⟩ := bindS hx1159
            obtain ⟨hs1170, rfl⟩ := appM_ok hx1169
            refine x_app (j := 0) w1165 rfl hs1170 rfl (e_op rr_and (e_var (R := rI) (x := x1139) rfl rfl) (e_var (R := rI) (x := x1106.1) rfl rfl)) hx1168 ?_
            intro H1171 G1172 w1173 e1174
            have h1175 := Rep.mono _ e1174 h1146
            have w1173 : Wo G H [l] G1172 H1171 [(p1119, cL rI (s1129 ++ [a1166])), (l, cL rI x1106.2)] := w1173
            refine x_next ?_
            have hx1159 : (s1129 ++ [a1166]) = s1158 := Option.some.inj hx1159
            subst hx1159
            exact ⟨G1172, w1173, e1174, rfl⟩
          · intro hbb1147 H1176 w1177
            subst hbb1147
            have hx1159 := bifF hx1159
            refine x_next ?_
            have hx1159 : s1129 = s1158 := Option.some.inj hx1159
            subst hx1159
            exact ⟨G1134, w1177, (Evl.Ex.refl _), rfl⟩
        · rintro σ' H1180 ⟨G1178, w1161, e1160, rfl⟩
          have h1179 := Rep.mono _ e1160 h1146
          refine x_next ?_
          have hb1131 : s1158 = q1133 := Option.some.inj hb1131
          subst hb1131
          exact ⟨G1178, (e1145.trans e1160), s1158, (some (V.int x1139)), w1161, (e1136.trans e1160), rfl, hm1132⟩
      · rintro σ' G1181 H1184 e1185 ⟨s1129, u1130, w1182, e1183, rfl, hm1132⟩
        have hm1132 := forS_end hm1132
        subst hm1132
        have h1187 := Rep.mono _ e1183 h1123
        obtain ⟨G1188, w1189, e1190, h1191⟩ := w1182.freezeAt (i := 0) rfl n1121
        have h1192 := Rep.mono _ e1190 h1187
        have w1189 : Wo G H [l] G1188 H1184 [(l, cL rI x1106.2)] := w1189
        obtain ⟨s1204, hx1205, hb1091⟩ := bindS hb1091
        refine o_cut (fun σ' H' => ∃ v1206 : V, ∃ G' : Hp, Wo G H [l] G' H' [(l, cL rI x1106.2)] ∧ Evl.Ex G1188 G' ∧ σ' = [some (V.ref l), some (V.int most0), some v1206, some (V.int x1099), none, none, some (V.int x1106.1), some (V.ref p1119), u1130] ∧ (rL rI).r G' v1206 s1204) ?_ ?_
        · obtain ⟨b1193, hx1211, hx1205⟩ := bindS hx1205
          refine x_if w1189 (et_T (e_op rr_le (e_cb rc_lenL (ea_cons (e_var (R := (rL rI)) (x := s1129) rfl (Rep.mono _ w1189.ex h1191)) ea_nil)) (e_var (R := rI) (x := most0) rfl rfl))) hx1211 ?_ ?_
          · intro hbb1193 H1212 w1213
            subst hbb1193
            have hx1205 := bifT hx1205
            obtain ⟨masks_here_1214, hx1215, hx1205⟩ := bindS hx1205
            refine x_set w1213 (EL.e (el_cb rc_listL (ea_cons (e_var (R := (rL rI)) (x := s1129) rfl h1191) ea_nil))) hx1215 ?_
            intro v1218 H1216 G1219 w1217 e1220 h1221
            have h1222 := Rep.mono _ e1220 h1192
            have h1223 := Rep.mono _ e1220 h1191
            refine x_next ?_
            have hx1205 : masks_here_1214 = s1204 := Option.some.inj hx1205
            subst hx1205
            exact ⟨v1218, G1219, w1217, e1220, rfl, h1221⟩
          · intro hbb1193 H1224 w1225
            subst hbb1193
            have hx1205 := bifF hx1205
            refine x_next ?_
            have hx1205 : s1084.1 = s1204 := Option.some.inj hx1205
            subst hx1205
            exact ⟨v1085, G1188, w1225, (Evl.Ex.refl _), rfl, h1192⟩
        · rintro σ' H1228 ⟨v1206, G1226, w1209, e1208, rfl, h1207⟩
          have h1227 := Rep.mono _ e1208 h1191
          refine x_next ?_
          have hb1091 : (s1204, x1106.2) = q1093 := Option.some.inj hb1091
          subst hb1091
          exact ⟨G1226, (s1204, x1106.2), v1206, (some (V.int x1099)), (some (V.int x1106.1)), (some (V.ref p1119)), (u1130), w1209, (((((e1096.trans e1112).trans e1122).trans e1183).trans e1190).trans e1208), rfl, h1207, hm1092⟩
    · rintro σ' G1229 H1232 ⟨s1084, v1085, u1087, u1088, u1089, u1090, w1230, e1231, rfl, h1086, hm1092⟩
      have hm1092 := forS_end hm1092
      subst hm1092
      obtain ⟨rest_1234, hx1235, h⟩ := bindS h
      refine x_setL w1230 (el_cb rc_sorted (ea_cons (e_var (R := (rL rI)) (x := s1084.1) rfl h1086) ea_nil)) hx1235 ?_
      intro p1238 H1236 G1239 n1240 w1237 e1241
      have h1242 := Rep.mono _ e1241 h1086
      obtain ⟨size_1243, hx1244, h⟩ := bindS h
      refine x_setI w1237 (Sim.E.s scI (e_cb rc_lenL (ea_cons (e_var (R := (rL rI)) (x := rest_1234) rfl (w1237.rlAt (i := 0) rfl)) ea_nil))) hx1244 ?_
      intro H1245 w1246
      obtain ⟨masks_here_1247, hx1248, h⟩ := bindS h
      refine x_setL w1246 (el_disp (R := rI) eal_nil) hx1248 ?_
      intro p1251 H1249 G1252 n1253 w1250 e1254
      have h1255 := Rep.mono _ e1254 h1242
      obtain ⟨n1256, hx1257, h⟩ := bindS h
      obtain ⟨xs1258, hx1259, h⟩ := bindS h
      obtain ⟨t1261, hx1262, h⟩ := bindS h
      refine x_forR w1250 (ea_cons (Sim.E.is (e_var (R := rI) (x := size_1243) rfl rfl) hx1257) ea_nil) rfl hx1259 (fun i G' H' σ' => ∃ s1263 : ((List Int) × ((List Int) × (List Int))), ∃ u1264 : Option V, Wo G H [l] G' H' [(p1251, cL rI s1263.1), (p1238, cL rI s1263.2.2), (l, cL rI s1263.2.1)] ∧ Evl.Ex G1252 G' ∧ σ' = [some (V.ref l), some (V.int most0), some (V.ref p1251), u1264, some (V.ref p1238), some (V.int size_1243), u1088, u1089, u1090] ∧ forS (m__law_masks_b3) (xs1258.drop i) s1263 = some t1261) ?_ ?_ ?_
      · intro G' H' w' e'
        exact ⟨(masks_here_1247, (s1084.2, rest_1234)), (u1087), w', e', rfl, hx1262⟩
      · rintro i1272 x1273 σ' G1268 H1271 hx1274 ⟨s1263, u1264, w1269, e1270, rfl, hm1266⟩
        obtain ⟨q1267, hb1265, hm1266⟩ := forS_at hx1274 hm1266
        refine g_name ?_
        unfold m__law_masks_b3 at hb1265
        refine x_drop ?_
        refine o_bm (j := 0) w1269 rfl rfl ?_
        refine o_cons ?_
        refine o_bm (j := 1) w1269 rfl rfl ?_
        refine o_cons ?_
        refine o_call ?_
        refine o_cons ?_
        refine o_var rfl ?_
        refine o_cons ?_
        obtain ⟨x1275, hx1276, hb1265⟩ := bindS hb1265
        refine c_i w1269 (Sim.E.s scI (e_cb rc_lenL (ea_cons (e_var (R := (rL rI)) (x := s1263.2.2) rfl (w1269.rlAt (i := 1) rfl)) ea_nil))) hx1276 ?_
        intro H1277 w1278
        refine o_nil ?_
        obtain ⟨x1280, hx1281, hb1265⟩ := bindS hb1265
        refine c_p1 (i := 2) (j := (x1275, ())) w1278 rfl ⟨_, _, rfl, rfl, rfl⟩ hx1281 ?_
        intro u1282 H1283 G1284 w1285 e1286 r1287
        cases r1287
        have w1285 : Wo G H [l] G1284 H1283 [(p1251, cL rI s1263.1), (p1238, cL rI s1263.2.2), (l, cL rI x1280.2)] := w1285
        refine o_nil ?_
        obtain ⟨x1289, hx1290, hb1265⟩ := bindS hb1265
        refine c_popAt (j := 1) w1285 rfl hx1290 ?_
        intro v1291 H1292 w1293 r1294
        cases r1294
        have w1293 : Wo G H [l] G1284 H1292 [(p1251, cL rI s1263.1), (p1238, cL rI x1289.2), (l, cL rI x1280.2)] := w1293
        refine o_nil ?_
        obtain ⟨masks_here_1296, hx1297, hb1265⟩ := bindS hb1265
        obtain ⟨hs1300, q1301⟩ := appM_ok hx1297
        subst q1301
        refine c_app (j := 0) w1293 rfl hs1300 rfl ?_
        intro H1298 w1299
        have w1299 : Wo G H [l] G1284 H1298 [(p1251, cL rI (s1263.1 ++ [x1289.1])), (p1238, cL rI x1289.2), (l, cL rI x1280.2)] := w1299
        refine x_next ?_
        have hb1265 : ((s1263.1 ++ [x1289.1]), (x1280.2, x1289.2)) = q1267 := Option.some.inj hb1265
        subst hb1265
        exact ⟨G1284, ((s1263.1 ++ [x1289.1]), (x1280.2, x1289.2)), (some (V.int x1273)), w1299, (e1270.trans e1286), rfl, hm1266⟩
      · rintro σ' G1302 H1305 ⟨s1263, u1264, w1303, e1304, rfl, hm1266⟩
        have hm1266 := forS_end hm1266
        subst hm1266
        obtain ⟨h8, h9⟩ : s1263.1 = r ∧ s1263.2.1 = k' := Prod.mk.inj (Option.some.inj h)
        subst h8
        subst h9
        refine x_retO (o_var rfl ?_)
        exact k _ _ _ n1253 w1303.f (w1303.sub2 (i := 0) (j := 2) rfl rfl (by decide))
def m__law_under (masks_here0 : (List Int)) (low0 : Int) (high0 : Int) : Option Bool :=
  (((atI masks_here0 low0 >>= fun t1307 => (atI masks_here0 high0 >>= fun t1308 => some (Builtin.bitAnd t1307 t1308))) >>= fun t1309 => (atI masks_here0 low0 >>= fun t1310 => some (t1309 == t1310))) >>= fun a1311 => some a1311)
theorem sc__law_under : FnScope ["_law_masks_here", "_law_low", "_law_high"] ["_law_masks_here", "_law_low", "_law_high"] (defScope s__law_under) := ⟨rfl, rfl, rfl, by decide +kernel, rfl, by decide +kernel, by decide +kernel⟩
theorem ok__law_under (T : Tx K mg) : Fk P w K mg base CX0 1 "_law_under" ["_law_masks_here", "_law_low", "_law_high"] (PF (aC (rL rI) (aC rI (aC rI aN))) rB (fun i => m__law_under i.1 i.2.1 i.2.2.1)) := by
  obtain ⟨fd, F⟩ := T.def_ 22 rfl
  have nd := sc__law_under.nd
  refine fk_mk T.toTx (x := "_law_under") (T.glo 27 rfl) F (fun _ _ _ _ _ _ us hl => match us, hl with | [_, _, _], _ => rfl) (F.ok sc__law_under (fun vs H Q E h => ?_) (fun cdv A outer s H vs Q E hr h => ?_))
  · obtain ⟨G, ⟨masks_here0, low0, high0, ⟨⟩⟩, r, e0, ⟨vmasks_here0, _, rfl, hmasks_here0, vlow0, _, rfl, hlow0, vhigh0, _, rfl, hhigh0, rfl⟩, h, k⟩ := h
    rfl
  · obtain ⟨G, ⟨masks_here0, low0, high0, ⟨⟩⟩, r, e0, ⟨vmasks_here0, _, rfl, hmasks_here0, vlow0, _, rfl, hlow0, vhigh0, _, rfl, hhigh0, rfl⟩, h, k⟩ := h
    cases hlow0
    cases hhigh0
    have w0 := Wo.start e0
    have h : m__law_under masks_here0 low0 high0 = some r := h
    unfold m__law_under at h
    refine ⟨_, PSs.nox (pss_cons (ps_ret (pe_cmpR op_eq (pe_op op_and (pe_ix (r := rIxL K) ix_list (pv 0) (pv 1) (fun _ _ => rfl)) (pe_ix (r := rIxL K) ix_list (pv 0) (pv 2) (fun _ _ => rfl))) (pe_ix (r := rIxL K) ix_list (pv 0) (pv 1) (fun _ _ => rfl)) (nomark _))) pss_nil), ?_⟩
    obtain ⟨a1311, hx1312, h⟩ := bindS h
    have h : a1311 = r := Option.some.inj h
    subst h
    exact x_ret w0 (e_op rr_eqI (e_op rr_and (e_op rr_ixL (e_var (R := (rL rI)) (x := masks_here0) rfl hmasks_here0) (e_var (R := rI) (x := low0) rfl rfl)) (e_op rr_ixL (e_var (R := (rL rI)) (x := masks_here0) rfl hmasks_here0) (e_var (R := rI) (x := high0) rfl rfl))) (e_op rr_ixL (e_var (R := (rL rI)) (x := masks_here0) rfl hmasks_here0) (e_var (R := rI) (x := low0) rfl rfl))) (by first | (simp only [be1, bs1, ba1] at hx1312 ⊢; exact hx1312) | exact hx1312) (fun v9 H9 G9 w9 e9 r9 => k v9 H9 G9 w9.upE r9)
def m__law_pairs_b2 (x1340 : Int) (masks_here0 : (List Int)) (x1360 : Int) (s1350 : (List (Int × Int))) : Option (List (Int × Int)) :=
  (((andO (some (!(x1340 == x1360))) (m__law_under masks_here0 x1340 x1360)) >>= fun b1363 => bif b1363 then (some (x1340, x1360) >>= fun a1382 => appM s1350 a1382 >>= fun pairs_here_1383 => some pairs_here_1383) else some s1350) >>= fun s1374 => some (s1374))
def m__law_pairs_b1 (masks_here0 : (List Int)) (x1340 : Int) (s1329 : (List (Int × Int))) : Option (List (Int × Int)) :=
  (some (masks_here0.length : Int) >>= fun n1343 => rngM 0 n1343 >>= fun xs1345 => forS (m__law_pairs_b2 x1340 masks_here0) xs1345 s1329 >>= fun s1350 => some (s1350))
def m__law_pairs (masks_here0 : (List Int)) : Option (List (Int × Int)) :=
  (some ([]) >>= fun pairs_here_1313 => (some (masks_here0.length : Int) >>= fun n1322 => rngM 0 n1322 >>= fun xs1324 => forS (m__law_pairs_b1 masks_here0) xs1324 pairs_here_1313 >>= fun s1329 => some s1329))
theorem sc__law_pairs : FnScope ["_law_masks_here", "_law_pairs_here", "_law_low", "_law_high"] ["_law_masks_here"] (defScope s__law_pairs) := ⟨rfl, rfl, rfl, by decide +kernel, rfl, by decide +kernel, by decide +kernel⟩
theorem ok__law_pairs (T : Tx K mg) : Fk P w K mg base CX0 2 "_law_pairs" ["_law_masks_here"] (PL (aC (rL rI) aN) (rP rI rI) (fun i => m__law_pairs i.1)) := by
  obtain ⟨fd__law_under, G__law_under, b__law_under, k__law_under, g__law_under⟩ := ok__law_under (w := w) (base := base) T
  obtain ⟨fd, F⟩ := T.def_ 23 rfl
  have nd := sc__law_pairs.nd
  refine fk_mk T.toTx (x := "_law_pairs") (T.glo 28 rfl) F (fun _ _ _ _ _ _ us hl => match us, hl with | [_], _ => rfl) (F.ok sc__law_pairs (fun vs H Q E h => ?_) (fun cdv A outer s H vs Q E hr h => ?_))
  · obtain ⟨G, ⟨masks_here0, ⟨⟩⟩, r, e0, ⟨vmasks_here0, _, rfl, hmasks_here0, rfl⟩, h, k⟩ := h
    rfl
  · obtain ⟨G, ⟨masks_here0, ⟨⟩⟩, r, e0, ⟨vmasks_here0, _, rfl, hmasks_here0, rfl⟩, h, k⟩ := h
    have w0 := Wo.start e0
    have h : m__law_pairs masks_here0 = some r := h
    unfold m__law_pairs at h
    refine ⟨_, PSs.nox (pss_cons (ps_set (i := 1) nd rfl (Or.inl rfl) (pe_lst pa_nil)) (pss_cons (ps_for PassesOwn.never rfl (pi_range1 (by rfl) (fr_range T) (pa_cons (pe_callB (r := rLn K) call_len_seq (by rfl) (fr_len T) (by decide +kernel) (pa_cons (pv 0) pa_nil)) pa_nil)) (pg_name (i := 2) nd rfl (Or.inl rfl)) (pss_cons (ps_for PassesOwn.never rfl (pi_range1 (by rfl) (fr_range T) (pa_cons (pe_callB (r := rLn K) call_len_seq (by rfl) (fr_len T) (by decide +kernel) (pa_cons (pv 0) pa_nil)) pa_nil)) (pg_name (i := 3) nd rfl (Or.inl rfl)) (Evl.pss_cut (ps_if (PW.pt (pw_and (pt_cmpR op_ne (pv 2) (pv 3) (nomark _)) (pw_and1 (pt_val (pe_call G__law_under (hr.mono (by decide)) rfl g__law_under k__law_under b__law_under .nil pass0 (pa_cons (pv 0) (pa_cons (pv 2) (pa_cons (pv 3) pa_nil)))))))) (pss_cons (ps_expr (pe_bm PySem.F.plainAttrs_list PySem.F.slot_list_append PySem.F.type_list_append mt_append (pv 1) (pa_cons (pe_tup (pa_cons (pv 2) (pa_cons (pv 3) pa_nil))) pa_nil))) pss_nil) pss_nil) pss_nil)) pss_nil)) (pss_cons (ps_ret (pv 1)) pss_nil))), ?_⟩
    obtain ⟨pairs_here_1313, hx1314, h⟩ := bindS h
    refine x_setL w0 (el_disp (R := (rP rI rI)) eal_nil) hx1314 ?_
    intro p1317 H1315 G1318 n1319 w1316 e1320
    have h1321 := Rep.mono _ e1320 hmasks_here0
    obtain ⟨n1322, hx1323, h⟩ := bindS h
    obtain ⟨xs1324, hx1325, h⟩ := bindS h
    obtain ⟨t1327, hx1328, h⟩ := bindS h
    refine x_forR w1316 (ea_cons (Sim.E.is (e_cb rc_lenL (ea_cons (e_var (R := (rL rI)) (x := masks_here0) rfl h1321) ea_nil)) hx1323) ea_nil) rfl hx1325 (fun i G' H' σ' => ∃ s1329 : (List (Int × Int)), ∃ u1330 : Option V, ∃ u1331 : Option V, Wo G H [] G' H' [(p1317, cL (rP rI rI) s1329)] ∧ Evl.Ex G1318 G' ∧ σ' = [some vmasks_here0, some (V.ref p1317), u1331, u1330] ∧ forS (m__law_pairs_b1 masks_here0) (xs1324.drop i) s1329 = some t1327) ?_ ?_ ?_
    · intro G' H' w' e'
      exact ⟨pairs_here_1313, (none), (none), w', e', rfl, hx1328⟩
    · rintro i1339 x1340 σ' G1335 H1338 hx1341 ⟨s1329, u1330, u1331, w1336, e1337, rfl, hm1333⟩
      obtain ⟨q1334, hb1332, hm1333⟩ := forS_at hx1341 hm1333
      have h1342 := Rep.mono _ e1337 h1321
      refine g_name ?_
      unfold m__law_pairs_b1 at hb1332
      obtain ⟨n1343, hx1344, hb1332⟩ := bindS hb1332
      obtain ⟨xs1345, hx1346, hb1332⟩ := bindS hb1332
      obtain ⟨t1348, hx1349, hb1332⟩ := bindS hb1332
      refine x_forR w1336 (ea_cons (Sim.E.is (e_cb rc_lenL (ea_cons (e_var (R := (rL rI)) (x := masks_here0) rfl h1342) ea_nil)) hx1344) ea_nil) rfl hx1346 (fun i G' H' σ' => ∃ s1350 : (List (Int × Int)), ∃ u1351 : Option V, Wo G H [] G' H' [(p1317, cL (rP rI rI) s1350)] ∧ Evl.Ex G1335 G' ∧ σ' = [some vmasks_here0, some (V.ref p1317), some (V.int x1340), u1351] ∧ forS (m__law_pairs_b2 x1340 masks_here0) (xs1345.drop i) s1350 = some t1348) ?_ ?_ ?_
      · intro G' H' w' e'
        exact ⟨s1329, (u1330), w', e', rfl, hx1349⟩
      · rintro i1359 x1360 σ' G1355 H1358 hx1361 ⟨s1350, u1351, w1356, e1357, rfl, hm1353⟩
        obtain ⟨q1354, hb1352, hm1353⟩ := forS_at hx1361 hm1353
        have h1362 := Rep.mono _ e1357 h1342
        refine g_name ?_
        unfold m__law_pairs_b2 at hb1352
        obtain ⟨s1374, hx1375, hb1352⟩ := bindS hb1352
        refine o_cut (fun σ' H' => ∃ G' : Hp, Wo G H [] G' H' [(p1317, cL (rP rI rI) s1374)] ∧ Evl.Ex G1355 G' ∧ σ' = [some vmasks_here0, some (V.ref p1317), some (V.int x1340), some (V.int x1360)]) ?_ ?_
        · obtain ⟨b1363, hx1379, hx1375⟩ := bindS hx1375
          refine x_if w1356 (et_and (et_T (e_op rr_neI (e_var (R := rI) (x := x1340) rfl rfl) (e_var (R := rI) (x := x1360) rfl rfl))) (et_B (e_call (ea_cons (e_var (R := (rL rI)) (x := masks_here0) rfl (Rep.mono _ w1356.ex h1362)) (ea_cons (e_var (R := rI) (x := x1340) rfl rfl) (ea_cons (e_var (R := rI) (x := x1360) rfl rfl) ea_nil)))))) (by first | (simp only [be1, bs1, ba1] at hx1379 ⊢; exact hx1379) | exact hx1379) ?_ ?_
          · intro hbb1363 H1380 w1381
            subst hbb1363
            have hx1375 := bifT hx1375
            obtain ⟨a1382, hx1384, hx1375⟩ := bindS hx1375
            obtain ⟨pairs_here_1383, hx1385, hx1375⟩ := bindS hx1375
            obtain ⟨hs1386, rfl⟩ := appM_ok hx1385
            refine x_app (j := 0) w1381 rfl hs1386 rfl (e_pair (e_var (R := rI) (x := x1340) rfl rfl) (e_var (R := rI) (x := x1360) rfl rfl)) hx1384 ?_
            intro H1387 G1388 w1389 e1390
            have h1391 := Rep.mono _ e1390 h1362
            have w1389 : Wo G H [] G1388 H1387 [(p1317, cL (rP rI rI) (s1350 ++ [a1382]))] := w1389
            refine x_next ?_
            have hx1375 : (s1350 ++ [a1382]) = s1374 := Option.some.inj hx1375
            subst hx1375
            exact ⟨G1388, w1389, e1390, rfl⟩
          · intro hbb1363 H1392 w1393
            subst hbb1363
            have hx1375 := bifF hx1375
            refine x_next ?_
            have hx1375 : s1350 = s1374 := Option.some.inj hx1375
            subst hx1375
            exact ⟨G1355, w1393, (Evl.Ex.refl _), rfl⟩
        · rintro σ' H1396 ⟨G1394, w1377, e1376, rfl⟩
          have h1395 := Rep.mono _ e1376 h1362
          refine x_next ?_
          have hb1352 : s1374 = q1354 := Option.some.inj hb1352
          subst hb1352
          exact ⟨G1394, s1374, (some (V.int x1360)), w1377, (e1357.trans e1376), rfl, hm1353⟩
      · rintro σ' G1397 H1400 ⟨s1350, u1351, w1398, e1399, rfl, hm1353⟩
        have hm1353 := forS_end hm1353
        subst hm1353
        have h1402 := Rep.mono _ e1399 h1342
        refine x_next ?_
        have hb1332 : s1350 = q1334 := Option.some.inj hb1332
        subst hb1332
        exact ⟨G1397, s1350, (u1351), (some (V.int x1340)), w1398, (e1337.trans e1399), rfl, hm1333⟩
    · rintro σ' G1403 H1406 ⟨s1329, u1330, u1331, w1404, e1405, rfl, hm1333⟩
      have hm1333 := forS_end hm1333
      subst hm1333
      have h1408 := Rep.mono _ e1405 h1321
      have h : s1329 = r := Option.some.inj h
      subst h
      refine x_retO (o_var rfl ?_)
      exact k _ _ _ n1319 w1404.upE (w1404.sub1 (i := 0) rfl)
def m_Order_least_b1 (self0 : m_Order) (x1428 : Int) (s1418 : Int) : Option Int :=
  (((atI self0.f_meets s1418 >>= fun t1436 => atI t1436 x1428) >>= fun t1437 => t1437) >>= fun found_1438 => some (found_1438))
def m_Order_least (self0 : m_Order) : Option Int :=
  (some (0 : Int) >>= fun found_1409 => (some self0.f_members >>= fun xs1413 => forS (m_Order_least_b1 self0) xs1413 found_1409 >>= fun s1418 => (some s1418 >>= fun a1449 => some a1449)))
theorem sc_Order_least : FnScope ["self", "found", "value"] ["self"] (defScope s_Order_least) := ⟨rfl, rfl, rfl, by decide +kernel, rfl, by decide +kernel, by decide +kernel⟩
theorem ok_Order_least (T : Tx K mg) : Fp P w K mg base CX0 1 "Order" "least" ["self"] (PF (aC (r_Order K) aN) rI (fun i => m_Order_least i.1)) := by
  obtain ⟨_, _, fd, F⟩ := T.ge 0 rfl
  have nd := sc_Order_least.nd
  refine fp_mk F (fun _ _ _ _ _ _ us hl => match us, hl with | [_], _ => rfl) (F.ok sc_Order_least (fun vs H Q E h => ?_) (fun cdv A outer s H vs Q E hr h => ?_))
  · obtain ⟨G, ⟨self0, ⟨⟩⟩, r, e0, ⟨vself0, _, rfl, hself0, rfl⟩, h, k⟩ := h
    rfl
  · obtain ⟨G, ⟨self0, ⟨⟩⟩, r, e0, ⟨vself0, _, rfl, hself0, rfl⟩, h, k⟩ := h
    have w0 := Wo.start e0
    have h : m_Order_least self0 = some r := h
    unfold m_Order_least at h
    refine ⟨_, PSs.nox (pss_cons (ps_set (i := 1) nd rfl (Or.inl rfl) pe_int) (pss_cons (ps_for PassesOwn.never rfl (pi_list (pe_fld (pv 0) rfl)) (pg_name (i := 2) nd rfl (Or.inl rfl)) (pss_cons (ps_set (i := 1) nd rfl (Or.inl rfl) (pe_ix (r := rIxL K) ix_list (pe_ix (r := rIxL K) ix_list (pe_fld (pv 0) rfl) (pv 1) (fun _ _ => rfl)) (pv 2) (fun _ _ => rfl))) pss_nil)) (pss_cons (ps_ret (pv 1)) pss_nil))), ?_⟩
    obtain ⟨found_1409, hx1410, h⟩ := bindS h
    refine x_setI w0 e_int hx1410 ?_
    intro H1411 w1412
    obtain ⟨xs1413, hx1414, h⟩ := bindS h
    obtain ⟨t1416, hx1417, h⟩ := bindS h
    refine x_forL w1412 (e_fld 3 (fun (o : m_Order) => o.f_members) (e_var (R := (r_Order K)) (x := self0) rfl hself0) (T.cls 51 rfl) (T.noat 55 rfl) (by decide +kernel) (fun _ => rfl)) hx1414 (fun i G' H' σ' => ∃ s1418 : Int, ∃ u1419 : Option V, Wo G H [] G' H' [] ∧ Evl.Ex G G' ∧ σ' = [some vself0, some (V.int s1418), u1419] ∧ forS (m_Order_least_b1 self0) (xs1413.drop i) s1418 = some t1416) (fun _ _ _ _ ⟨_, _, w, _⟩ => w.ex) ?_ ?_ ?_
    · intro G' H' w' e'
      exact ⟨found_1409, (none), w', e', rfl, hx1417⟩
    · rintro G1430 e1431 i1427 x1428 v1432 σ' G1423 H1426 hx1429 e1434 ⟨s1418, u1419, w1424, e1425, rfl, hm1421⟩ r1433
      obtain ⟨q1422, hb1420, hm1421⟩ := forS_at hx1429 hm1421
      have h1435 := Rep.mono _ e1425 hself0
      refine g_name ?_
      cases r1433
      unfold m_Order_least_b1 at hb1420
      obtain ⟨found_1438, hx1439, hb1420⟩ := bindS hb1420
      refine x_setI w1424 (e_get (e_op rr_ixL (e_op rr_ixL (e_fld 2 (fun (o : m_Order) => o.f_meets) (e_var (R := (r_Order K)) (x := self0) rfl h1435) (T.cls 51 rfl) (T.noat 54 rfl) (by decide +kernel) (fun _ => rfl)) (e_var (R := rI) (x := s1418) rfl rfl)) (e_var (R := rI) (x := x1428) rfl rfl))) (by first | (simp only [be1, bs1, ba1] at hx1439 ⊢; exact hx1439) | exact hx1439) ?_
      intro H1440 w1441
      refine x_next ?_
      have hb1420 : found_1438 = q1422 := Option.some.inj hb1420
      subst hb1420
      exact ⟨G1423, (e1434.trans (Evl.Ex.refl _)), found_1438, (some (V.int x1428)), w1441, e1425, rfl, hm1421⟩
    · rintro σ' G1442 H1445 e1446 ⟨s1418, u1419, w1443, e1444, rfl, hm1421⟩
      have hm1421 := forS_end hm1421
      subst hm1421
      have h1448 := Rep.mono _ e1444 hself0
      obtain ⟨a1449, hx1450, h⟩ := bindS h
      have h : a1449 = r := Option.some.inj h
      subst h
      exact x_ret w1443 (e_var (R := rI) (x := s1418) rfl rfl) hx1450 (fun v9 H9 G9 w9 e9 r9 => k v9 H9 G9 w9.upE r9)
def m__law_names_b2 (s1470 : ((List Str) × (List Int))) (x1584 : Int) (s1574 : Str) : Option Str :=
  ((some (s1470.1.any fun z => z == s1574) >>= fun b1586 => bif b1586 then (addS s1574 ("x" : Str) >>= fun name_1599 => some name_1599) else some s1574) >>= fun s1591 => some (s1591))
def m__law_names_b1 (signs_1451 : Str) (x1482 : Int) (s1470 : ((List Str) × (List Int))) : Option ((List Str) × (List Int)) :=
  (some signs_1451 >>= fun x1484 => (some (62 : Int) >>= fun x1489 => (m__law_draw s1470.2 x1489 >>= fun x1494 => (ixS x1484 x1494.1 >>= fun x1502 => (some (4 : Int) >>= fun x1511 => (m__law_draw x1494.2 x1511 >>= fun x1516 => (mulS x1502 x1516.1 >>= fun x1524 => (some signs_1451 >>= fun x1533 => (some (62 : Int) >>= fun x1538 => (m__law_draw x1516.2 x1538 >>= fun x1543 => (ixS x1533 x1543.1 >>= fun x1551 => (addS x1524 x1551 >>= fun x1559 => (some x1482 >>= fun n1567 => rngM 0 n1567 >>= fun xs1569 => forS (m__law_names_b2 s1470) xs1569 x1559 >>= fun s1574 => (some s1574 >>= fun a1612 => appM s1470.1 a1612 >>= fun names_here_1613 => some ((names_here_1613, x1543.2))))))))))))))))
def m__law_names (pot_here0 : (List Int)) (many0 : Int) : Option ((List Str) × (List Int)) :=
  (some ("abcdefghijklmnopqrstuvwxyzABCDEFGHIJKLMNOPQRSTUVWXYZ0123456789" : Str) >>= fun signs_1451 => (some ([]) >>= fun names_here_1455 => (some many0 >>= fun n1463 => rngM 0 n1463 >>= fun xs1465 => forS (m__law_names_b1 signs_1451) xs1465 (names_here_1455, pot_here0) >>= fun s1470 => some (s1470.1, s1470.2))))
theorem sc__law_names : FnScope ["_law_pot_here", "_law_many", "_law_signs", "_law_names_here", "_law_k", "_law_name", "_law_other"] ["_law_pot_here", "_law_many"] (defScope s__law_names) := ⟨rfl, rfl, rfl, by decide +kernel, rfl, by decide +kernel, by decide +kernel⟩
theorem ok__law_names (T : Tx K mg) : Fk P w K mg base CX0 2 "_law_names" ["_law_pot_here", "_law_many"] (P1L (aC rI aN) rI rS (fun ys i => m__law_names ys i.1)) := by
  obtain ⟨fd__law_draw, G__law_draw, b__law_draw, k__law_draw, g__law_draw⟩ := ok__law_draw (w := w) (base := base) T
  obtain ⟨fd, F⟩ := T.def_ 24 rfl
  have nd := sc__law_names.nd
  refine fk_mk T.toTx (x := "_law_names") (T.glo 29 rfl) F (fun _ _ _ _ _ _ us hl => match us, hl with | [_, _], _ => rfl) (F.ok sc__law_names (fun vs H Q E h => ?_) (fun cdv A outer s H vs Q E hr h => ?_))
  · obtain ⟨G, ⟨l, ⟨many0, ⟨⟩⟩⟩, pot_here0, r, k', ⟨_, _, rfl, rfl, ⟨vmany0, _, rfl, hmany0, rfl⟩⟩, wd, h, k⟩ := h
    rfl
  · obtain ⟨G, ⟨l, ⟨many0, ⟨⟩⟩⟩, pot_here0, r, k', ⟨_, _, rfl, rfl, ⟨vmany0, _, rfl, hmany0, rfl⟩⟩, wd, h, k⟩ := h
    cases hmany0
    have e0 : Evl.Ex G H := wd.ex
    have w0 : Wo G H [l] G H _ := Wo.startC wd
    have h : m__law_names pot_here0 many0 = some (r, k') := h
    unfold m__law_names at h
    refine ⟨_, PSs.nox (pss_cons (ps_set (i := 2) nd rfl (Or.inl rfl) pe_str) (pss_cons (ps_set (i := 3) nd rfl (Or.inl rfl) (pe_lst pa_nil)) (pss_cons (ps_for PassesOwn.never rfl (pi_range1 (by rfl) (fr_range T) (pa_cons (pv 1) pa_nil)) (pg_name (i := 4) nd rfl (Or.inl rfl)) (pss_cons (ps_set (i := 5) nd rfl (Or.inl rfl) (pe_op (r := rAddS) op_add_str (pe_op (r := rMulS) op_mulS (pe_ix (r := rIxS) ix_str (pv 2) (pe_call G__law_draw (hr.mono (by decide)) rfl g__law_draw k__law_draw b__law_draw .nil pass0 (pa_cons (pv 0) (pa_cons pe_int pa_nil))) (fun _ _ => rfl)) (pe_call G__law_draw (hr.mono (by decide)) rfl g__law_draw k__law_draw b__law_draw .nil pass0 (pa_cons (pv 0) (pa_cons pe_int pa_nil)))) (pe_ix (r := rIxS) ix_str (pv 2) (pe_call G__law_draw (hr.mono (by decide)) rfl g__law_draw k__law_draw b__law_draw .nil pass0 (pa_cons (pv 0) (pa_cons pe_int pa_nil))) (fun _ _ => rfl)))) (pss_cons (ps_for PassesOwn.never rfl (pi_range1 (by rfl) (fr_range T) (pa_cons (pv 4) pa_nil)) (pg_name (i := 6) nd rfl (Or.inl rfl)) (Evl.pss_cut (ps_if (pt_cmpR (r := rIn K false) op_in_seq (pv 5) (pv 3) (by rfl)) (pss_cons (ps_set (i := 5) nd rfl (Or.inl rfl) (pe_op (r := rAddS) op_add_str (pv 5) pe_str)) pss_nil) pss_nil) pss_nil)) (pss_cons (ps_expr (pe_bm PySem.F.plainAttrs_list PySem.F.slot_list_append PySem.F.type_list_append mt_append (pv 3) (pa_cons (pv 5) pa_nil))) pss_nil)))) (pss_cons (ps_ret (pv 3)) pss_nil)))), ?_⟩
    obtain ⟨signs_1451, hx1452, h⟩ := bindS h
    refine x_setS w0 e_str hx1452 ?_
    intro H1453 w1454
    obtain ⟨names_here_1455, hx1456, h⟩ := bindS h
    refine x_setL w1454 (el_disp (R := rS) eal_nil) hx1456 ?_
    intro p1459 H1457 G1460 n1461 w1458 e1462
    obtain ⟨n1463, hx1464, h⟩ := bindS h
    obtain ⟨xs1465, hx1466, h⟩ := bindS h
    obtain ⟨t1468, hx1469, h⟩ := bindS h
    refine x_forR w1458 (ea_cons (Sim.E.is (e_var (R := rI) (x := many0) rfl rfl) hx1464) ea_nil) rfl hx1466 (fun i G' H' σ' => ∃ s1470 : ((List Str) × (List Int)), ∃ u1471 : Option V, ∃ u1472 : Option V, ∃ u1473 : Option V, Wo G H [l] G' H' [(p1459, cL rS s1470.1), (l, cL rI s1470.2)] ∧ Evl.Ex G1460 G' ∧ σ' = [some (V.ref l), some (V.int many0), some (V.str signs_1451), some (V.ref p1459), u1471, u1472, u1473] ∧ forS (m__law_names_b1 signs_1451) (xs1465.drop i) s1470 = some t1468) ?_ ?_ ?_
    · intro G' H' w' e'
      exact ⟨(names_here_1455, pot_here0), (none), (none), (none), w', e', rfl, hx1469⟩
    · rintro i1481 x1482 σ' G1477 H1480 hx1483 ⟨s1470, u1471, u1472, u1473, w1478, e1479, rfl, hm1475⟩
      obtain ⟨q1476, hb1474, hm1475⟩ := forS_at hx1483 hm1475
      refine g_name ?_
      unfold m__law_names_b1 at hb1474
      refine x_setO ?_
      refine o_op ?_
      refine o_op ?_
      refine o_op ?_
      obtain ⟨x1484, hx1485, hb1474⟩ := bindS hb1474
      refine c_s w1478 (e_var (R := rS) (x := signs_1451) rfl rfl) hx1485 ?_
      intro H1486 w1487
      refine o_call ?_
      refine o_cons ?_
      refine o_var rfl ?_
      refine o_cons ?_
      obtain ⟨x1489, hx1490, hb1474⟩ := bindS hb1474
      refine c_i w1487 e_int hx1490 ?_
      intro H1491 w1492
      refine o_nil ?_
      obtain ⟨x1494, hx1495, hb1474⟩ := bindS hb1474
      refine c_p1 (i := 1) (j := (x1489, ())) w1492 rfl ⟨_, _, rfl, rfl, rfl⟩ hx1495 ?_
      intro u1496 H1497 G1498 w1499 e1500 r1501
      cases r1501
      have w1499 : Wo G H [l] G1498 H1497 [(p1459, cL rS s1470.1), (l, cL rI x1494.2)] := w1499
      obtain ⟨x1502, hx1503, hb1474⟩ := bindS hb1474
      refine c_rr rr_ixS w1499 rfl rfl hx1503 ?_
      intro u1504 H1505 G1506 w1507 e1508 r1509
      cases r1509
      refine o_call ?_
      refine o_cons ?_
      refine o_var rfl ?_
      refine o_cons ?_
      obtain ⟨x1511, hx1512, hb1474⟩ := bindS hb1474
      refine c_i w1507 e_int hx1512 ?_
      intro H1513 w1514
      refine o_nil ?_
      obtain ⟨x1516, hx1517, hb1474⟩ := bindS hb1474
      refine c_p1 (i := 1) (j := (x1511, ())) w1514 rfl ⟨_, _, rfl, rfl, rfl⟩ hx1517 ?_
      intro u1518 H1519 G1520 w1521 e1522 r1523
      cases r1523
      have w1521 : Wo G H [l] G1520 H1519 [(p1459, cL rS s1470.1), (l, cL rI x1516.2)] := w1521
      obtain ⟨x1524, hx1525, hb1474⟩ := bindS hb1474
      refine c_rr rr_mulS w1521 rfl rfl hx1525 ?_
      intro u1526 H1527 G1528 w1529 e1530 r1531
      cases r1531
      refine o_op ?_
      obtain ⟨x1533, hx1534, hb1474⟩ := bindS hb1474
      refine c_s w1529 (e_var (R := rS) (x := signs_1451) rfl rfl) hx1534 ?_
      intro H1535 w1536
      refine o_call ?_
      refine o_cons ?_
      refine o_var rfl ?_
      refine o_cons ?_
      obtain ⟨x1538, hx1539, hb1474⟩ := bindS hb1474
      refine c_i w1536 e_int hx1539 ?_
      intro H1540 w1541
      refine o_nil ?_
      obtain ⟨x1543, hx1544, hb1474⟩ := bindS hb1474
      refine c_p1 (i := 1) (j := (x1538, ())) w1541 rfl ⟨_, _, rfl, rfl, rfl⟩ hx1544 ?_
      intro u1545 H1546 G1547 w1548 e1549 r1550
      cases r1550
      have w1548 : Wo G H [l] G1547 H1546 [(p1459, cL rS s1470.1), (l, cL rI x1543.2)] := w1548
      obtain ⟨x1551, hx1552, hb1474⟩ := bindS hb1474
      refine c_rr rr_ixS w1548 rfl rfl hx1552 ?_
      intro u1553 H1554 G1555 w1556 e1557 r1558
      cases r1558
      obtain ⟨x1559, hx1560, hb1474⟩ := bindS hb1474
      refine c_rr rr_addS w1556 rfl rfl hx1560 ?_
      intro u1561 H1562 G1563 w1564 e1565 r1566
      cases r1566
      obtain ⟨n1567, hx1568, hb1474⟩ := bindS hb1474
      obtain ⟨xs1569, hx1570, hb1474⟩ := bindS hb1474
      obtain ⟨t1572, hx1573, hb1474⟩ := bindS hb1474
      refine x_forR w1564 (ea_cons (Sim.E.is (e_var (R := rI) (x := x1482) rfl rfl) hx1568) ea_nil) rfl hx1570 (fun i G' H' σ' => ∃ s1574 : Str, ∃ u1575 : Option V, Wo G H [l] G' H' [(p1459, cL rS s1470.1), (l, cL rI x1543.2)] ∧ Evl.Ex G1563 G' ∧ σ' = [some (V.ref l), some (V.int many0), some (V.str signs_1451), some (V.ref p1459), some (V.int x1482), some (V.str s1574), u1575] ∧ forS (m__law_names_b2 s1470) (xs1569.drop i) s1574 = some t1572) ?_ ?_ ?_
      · intro G' H' w' e'
        exact ⟨x1559, (u1473), w', e', rfl, hx1573⟩
      · rintro i1583 x1584 σ' G1579 H1582 hx1585 ⟨s1574, u1575, w1580, e1581, rfl, hm1577⟩
        obtain ⟨q1578, hb1576, hm1577⟩ := forS_at hx1585 hm1577
        refine g_name ?_
        unfold m__law_names_b2 at hb1576
        obtain ⟨s1591, hx1592, hb1576⟩ := bindS hb1576
        refine o_cut (fun σ' H' => ∃ G' : Hp, Wo G H [l] G' H' [(p1459, cL rS s1470.1), (l, cL rI x1543.2)] ∧ Evl.Ex G1579 G' ∧ σ' = [some (V.ref l), some (V.int many0), some (V.str signs_1451), some (V.ref p1459), some (V.int x1482), some (V.str s1591), some (V.int x1584)]) ?_ ?_
        · obtain ⟨b1586, hx1596, hx1592⟩ := bindS hx1592
          refine x_if w1580 (et_T (e_op (rr_inL flS) (e_var (R := rS) (x := s1574) rfl rfl) (e_var (R := (rL rS)) (x := s1470.1) rfl (w1580.rlAt (i := 0) rfl)))) hx1596 ?_ ?_
          · intro hbb1586 H1597 w1598
            subst hbb1586
            have hx1592 := bifT hx1592
            obtain ⟨name_1599, hx1600, hx1592⟩ := bindS hx1592
            refine x_setS w1598 (e_op rr_addS (e_var (R := rS) (x := s1574) rfl rfl) e_str) (by first | (simp only [be1, bs1, ba1] at hx1600 ⊢; exact hx1600) | exact hx1600) ?_
            intro H1601 w1602
            refine x_next ?_
            have hx1592 : name_1599 = s1591 := Option.some.inj hx1592
            subst hx1592
            exact ⟨G1579, w1602, (Evl.Ex.refl _), rfl⟩
          · intro hbb1586 H1603 w1604
            subst hbb1586
            have hx1592 := bifF hx1592
            refine x_next ?_
            have hx1592 : s1574 = s1591 := Option.some.inj hx1592
            subst hx1592
            exact ⟨G1579, w1604, (Evl.Ex.refl _), rfl⟩
        · rintro σ' H1606 ⟨G1605, w1594, e1593, rfl⟩
          refine x_next ?_
          have hb1576 : s1591 = q1578 := Option.some.inj hb1576
          subst hb1576
          exact ⟨G1605, s1591, (some (V.int x1584)), w1594, (e1581.trans e1593), rfl, hm1577⟩
      · rintro σ' G1607 H1610 ⟨s1574, u1575, w1608, e1609, rfl, hm1577⟩
        have hm1577 := forS_end hm1577
        subst hm1577
        obtain ⟨a1612, hx1614, hb1474⟩ := bindS hb1474
        obtain ⟨names_here_1613, hx1615, hb1474⟩ := bindS hb1474
        obtain ⟨hs1616, rfl⟩ := appM_ok hx1615
        refine x_app (j := 0) w1608 rfl hs1616 rfl (e_var (R := rS) (x := s1574) rfl rfl) hx1614 ?_
        intro H1617 G1618 w1619 e1620
        have w1619 : Wo G H [l] G1618 H1617 [(p1459, cL rS (s1470.1 ++ [a1612])), (l, cL rI x1543.2)] := w1619
        refine x_next ?_
        have hb1474 : ((s1470.1 ++ [a1612]), x1543.2) = q1476 := Option.some.inj hb1474
        subst hb1474
        exact ⟨G1618, ((s1470.1 ++ [a1612]), x1543.2), (some (V.int x1482)), (some (V.str s1574)), (u1575), w1619, (((((((((e1479.trans e1500).trans e1508).trans e1522).trans e1530).trans e1549).trans e1557).trans e1565).trans e1609).trans e1620), rfl, hm1475⟩
    · rintro σ' G1621 H1624 ⟨s1470, u1471, u1472, u1473, w1622, e1623, rfl, hm1475⟩
      have hm1475 := forS_end hm1475
      subst hm1475
      obtain ⟨h8, h9⟩ : s1470.1 = r ∧ s1470.2 = k' := Prod.mk.inj (Option.some.inj h)
      subst h8
      subst h9
      refine x_retO (o_var rfl ?_)
      exact k _ _ _ n1461 w1622.f (w1622.sub2 (i := 0) (j := 1) rfl rfl (by decide))
def m_Record___init___b1 (x1651 : (Str × Int)) (s1640 : (List Str)) : Option (List Str) :=
  (some (s1640.any fun z => z == x1651.1) >>= fun b1663 => bif b1663 then none else (some x1651.1 >>= fun a1669 => appM s1640 a1669 >>= fun names_1670 => some (names_1670)))
def m_Record___init__ (name0 : Str) (asks0 : (List (Str × Int))) (result0 : Int) : Option m_Record :=
  (some ([]) >>= fun names_1626 => (some asks0 >>= fun xs1635 => forS (m_Record___init___b1) xs1635 names_1626 >>= fun s1640 => (some name0 >>= fun f1686 => ((mapS (fun x1696 => some (x1696.1, x1696.2)) asks0 >>= fun t1704 => some t1704) >>= fun f1705 => (some result0 >>= fun f1712 => some (m_Record.mk f1686 f1705 f1712))))))
theorem sc_Record___init__ : FnScope ["self", "name", "asks", "result", "names", "asked", "answer"] ["self", "name", "asks", "result"] (defScope s_Record___init__) := ⟨rfl, rfl, rfl, by decide +kernel, rfl, by decide +kernel, by decide +kernel⟩
theorem ok_Record___init__ (T : Tx K mg) : Fm P w K mg base CX0 1 "Record" "__init__" ["self", "name", "asks", "result"] (PIs (He.ga K "Record") (aC rS (aC (rL (rP rS rI)) (aC rI aN))) (fl_Record K) (fun i => m_Record___init__ i.1 i.2.1 i.2.2.1)) := by
  obtain ⟨fd, F⟩ := T.def_ 0 rfl
  have nd := sc_Record___init__.nd
  refine fm_mk F (fun _ _ _ _ _ _ us hl => match us, hl with | [_, _, _, _], _ => rfl) (F.ok sc_Record___init__ (fun vs H Q E h => ?_) (fun cdv A outer s H vs Q E hr h => ?_))
  · obtain ⟨G, l, ld, _, ⟨name0, asks0, result0, ⟨⟩⟩, r, rfl, wd, ⟨vname0, _, rfl, hname0, vasks0, _, rfl, hasks0, vresult0, _, rfl, hresult0, rfl⟩, h, k⟩ := h
    rfl
  · obtain ⟨G, l, ld, _, ⟨name0, asks0, result0, ⟨⟩⟩, r, rfl, wd, ⟨vname0, _, rfl, hname0, vasks0, _, rfl, hasks0, vresult0, _, rfl, hresult0, rfl⟩, h, k⟩ := h
    cases hname0
    cases hresult0
    have w0 : Wo G H [l, ld] G H _ := Wo.startC wd
    have h : m_Record___init__ name0 asks0 result0 = some r := h
    unfold m_Record___init__ at h
    refine ⟨_, PSs.nox (pss_cons (ps_set (i := 4) nd rfl (Or.inl rfl) (pe_lst pa_nil)) (pss_cons (ps_for PassesOwn.never rfl (pi_list (pv 2)) (pg_tup (by rfl) (pgs_cons (pg_name (i := 5) nd rfl (by first | exact Or.inl rfl | exact Or.inr rfl)) (pgs_cons (pg_name (i := 6) nd rfl (by first | exact Or.inl rfl | exact Or.inr rfl)) pgs_nil))) (pss_cons (ps_if (pt_cmpR (r := rIn K false) op_in_seq (pv 5) (pv 4) (by rfl)) (pss_cons ps_never pss_nil) pss_nil) (pss_cons (ps_expr (pe_bm PySem.F.plainAttrs_list PySem.F.slot_list_append PySem.F.type_list_append mt_append (pv 4) (pa_cons (pv 5) pa_nil))) pss_nil))) (pss_cons (SlX.ps_sl (pv 0) (pv 1) (by rfl)) (pss_cons (SlX.ps_sl (pv 0) (pe_callTy (r := rTpD K) call_tupD (by rfl) (fr_tuple T) (by decide +kernel) (pa_cons (pe_lc (own := [("asked", 5), ("answer", 6)]) (by rfl) nd (show L2.PI _ _ _ (iList K _) from pi_list (pv 2)) (blkOk_by (by kernel_rfl)) (fun _ _ _ _ _ => show L2.PG _ _ (gTup K 2 (gCons (gName 5) (gCons (gName 6) gNil))) from pg_tup (by rfl) (pgs_cons (pg_name (i := 5) nd rfl (by first | exact Or.inl rfl | exact Or.inr rfl)) (pgs_cons (pg_name (i := 6) nd rfl (by first | exact Or.inl rfl | exact Or.inr rfl)) pgs_nil))) (fun _ _ _ _ _ => pts_nil) (fun _ _ _ _ _ => (pe_tup (pa_cons (pv 5) (pa_cons (pv 6) pa_nil))))) pa_nil)) (by rfl)) (pss_cons (SlX.ps_sl (pv 0) (pv 3) (by rfl)) pss_nil))))), ?_⟩
    obtain ⟨names_1626, hx1627, h⟩ := bindS h
    refine x_setL w0 (el_disp (R := rS) eal_nil) hx1627 ?_
    intro p1630 H1628 G1631 n1632 w1629 e1633
    have h1634 := Rep.mono _ e1633 hasks0
    obtain ⟨xs1635, hx1636, h⟩ := bindS h
    obtain ⟨t1638, hx1639, h⟩ := bindS h
    refine x_forL w1629 (e_var (R := (rL (rP rS rI))) (x := asks0) rfl h1634) hx1636 (fun i G' H' σ' => ∃ s1640 : (List Str), ∃ u1641 : Option V, ∃ u1642 : Option V, Wo G H [l, ld] G' H' [(p1630, cL rS s1640), (l, cN (He.ga K "Record") ld), (ld, cOw l)] ∧ Evl.Ex G1631 G' ∧ σ' = [some (V.ref l), some (V.str name0), some vasks0, some (V.int result0), some (V.ref p1630), u1642, u1641] ∧ forS (m_Record___init___b1) (xs1635.drop i) s1640 = some t1638) (fun _ _ _ _ ⟨_, _, _, w, _⟩ => w.ex) ?_ ?_ ?_
    · intro G' H' w' e'
      exact ⟨names_1626, (none), (none), w', e', rfl, hx1639⟩
    · rintro G1653 e1654 i1650 x1651 v1655 σ' G1646 H1649 hx1652 e1657 ⟨s1640, u1641, u1642, w1647, e1648, rfl, hm1644⟩ r1656
      obtain ⟨q1645, hb1643, hm1644⟩ := forS_at hx1652 hm1644
      have h1658 := Rep.mono _ e1648 h1634
      refine g_pair (i := 5) (j := 6) r1656 w1647.ex ?_
      intro v1659 v1660 r1661 r1662
      cases r1661
      cases r1662
      unfold m_Record___init___b1 at hb1643
      obtain ⟨b1663, hx1664, hb1643⟩ := bindS hb1643
      refine x_if w1647 (et_T (e_op (rr_inL flS) (e_var (R := rS) (x := x1651.1) rfl rfl) (e_var (R := (rL rS)) (x := s1640) rfl (w1647.rlAt (i := 0) rfl)))) hx1664 ?_ ?_
      · intro hbb1663 H1665 w1666
        subst hbb1663
        have hb1643 := bifT hb1643
        cases (show none = some _ from hb1643)
      · intro hbb1663 H1667 w1668
        subst hbb1663
        have hb1643 := bifF hb1643
        refine x_next ?_
        obtain ⟨a1669, hx1671, hb1643⟩ := bindS hb1643
        obtain ⟨names_1670, hx1672, hb1643⟩ := bindS hb1643
        obtain ⟨hs1673, rfl⟩ := appM_ok hx1672
        refine x_app (j := 0) w1668 rfl hs1673 rfl (e_var (R := rS) (x := x1651.1) rfl rfl) hx1671 ?_
        intro H1674 G1675 w1676 e1677
        have h1678 := Rep.mono _ e1677 h1658
        have w1676 : Wo G H [l, ld] G1675 H1674 [(p1630, cL rS (s1640 ++ [a1669])), (l, cN (He.ga K "Record") ld), (ld, cOw l)] := w1676
        refine x_next ?_
        have hb1643 : (s1640 ++ [a1669]) = q1645 := Option.some.inj hb1643
        subst hb1643
        exact ⟨G1675, (e1657.trans e1677), (s1640 ++ [a1669]), (some (V.int x1651.2)), (some (V.str x1651.1)), w1676, (e1648.trans e1677), rfl, hm1644⟩
    · rintro σ' G1679 H1682 e1683 ⟨s1640, u1641, u1642, w1680, e1681, rfl, hm1644⟩
      have hm1644 := forS_end hm1644
      subst hm1644
      have h1685 := Rep.mono _ e1681 h1634
      obtain ⟨f1686, hx1687, h⟩ := bindS h
      refine x_sl1 (j := 1) (j2 := 2) w1680 rfl rfl rfl (e_var (R := rS) (x := name0) rfl rfl) hx1687 (scl_ok (T.mo 1 rfl)) (slot_ok (T.mo 2 rfl)) (by decide) ?_
      intro H1688 G1689 w1690 e1691
      have h1692 := Rep.mono _ e1691 h1685
      have w1690 : Wo G H [l, ld] G1689 H1688 [(p1630, cL rS s1640), (l, cSl l (He.ga K "Record") ld [(1, pd rS f1686)]), (ld, cXd)] := w1690
      obtain ⟨f1705, hx1706, h⟩ := bindS h
      refine x_slN (j := 1) (j2 := 2) w1690 rfl rfl rfl (e_cb rc_tupD (ea_cons (EL.e (el_map (el_lcP (j := 6) (e_var (R := (rL (rP rS rI))) (x := asks0) rfl h1692) (fun _ _ => rfl) (fun _ _ _ _ _ _ _ _ _ _ => et_yes) (fun x1696 v1699 v1700 G1697 W1698 eG1693 eW1694 eX1695 h1701 h1702 => (e_pair (e_var (R := rS) (x := x1696.1) rfl h1701) (e_var (R := rI) (x := x1696.2) rfl h1702)))))) ea_nil)) (by first | (simp only [be1, bs1, ba1] at hx1706 ⊢; exact hx1706) | exact hx1706) (scl_ok (T.mo 1 rfl)) (slot_ok (T.mo 3 rfl)) (by decide) (by simp) ?_
      intro H1707 G1708 w1709 e1710
      have h1711 := Rep.mono _ e1710 h1692
      have w1709 : Wo G H [l, ld] G1708 H1707 [(p1630, cL rS s1640), (l, cSl l (He.ga K "Record") ld [(1, pd rS f1686), (0, pd (rTd (rP rS rI)) f1705)]), (ld, cXd)] := w1709
      obtain ⟨f1712, hx1713, h⟩ := bindS h
      refine x_slN (j := 1) (j2 := 2) w1709 rfl rfl rfl (e_var (R := rI) (x := result0) rfl rfl) hx1713 (scl_ok (T.mo 1 rfl)) (slot_ok (T.mo 4 rfl)) (by decide) (by simp) ?_
      intro H1714 G1715 w1716 e1717
      have h1718 := Rep.mono _ e1717 h1711
      have w1716 : Wo G H [l, ld] G1715 H1714 [(p1630, cL rS s1640), (l, cSl l (He.ga K "Record") ld [(1, pd rS f1686), (0, pd (rTd (rP rS rI)) f1705), (2, pd rI f1712)]), (ld, cXd)] := w1716
      refine x_next ?_
      have h : (m_Record.mk f1686 f1705 f1712) = r := Option.some.inj h
      subst h
      exact k _ _ w1716.f (w1716.sub2 (i := 1) (j := 2) rfl rfl (by decide))
def m_Record_answer_b1 (name0 : Str) (x1735 : (Str × Int)) (s1724 : Unit) : Option (Stp Unit (Option Int)) :=
  (some (decide (x1735.1 = name0)) >>= fun b1747 => bif b1747 then (some (some x1735.2) >>= fun a1751 => some (Stp.rt a1751)) else some (Stp.nx ()))
def m_Record_answer (self0 : m_Record) (name0 : Str) : Option (Option Int) :=
  (some self0.asks >>= fun xs1719 => forL (m_Record_answer_b1 name0) xs1719 () >>= Sum.elim (fun s1724 => (some (none : (Option Int)) >>= fun a1762 => some a1762)) (fun r => some r))
theorem sc_Record_answer : FnScope ["self", "name", "asked", "answer"] ["self", "name"] (defScope s_Record_answer) := ⟨rfl, rfl, rfl, by decide +kernel, rfl, by decide +kernel, by decide +kernel⟩
theorem ok_Record_answer (T : Tx K mg) : Fm P w K mg base CX0 1 "Record" "answer" ["self", "name"] (PF (aC (r_Record K) (aC rS aN)) (rO rI) (fun i => m_Record_answer i.1 i.2.1)) := by
  obtain ⟨fd, F⟩ := T.def_ 1 rfl
  have nd := sc_Record_answer.nd
  refine fm_mk F (fun _ _ _ _ _ _ us hl => match us, hl with | [_, _], _ => rfl) (F.ok sc_Record_answer (fun vs H Q E h => ?_) (fun cdv A outer s H vs Q E hr h => ?_))
  · obtain ⟨G, ⟨self0, name0, ⟨⟩⟩, r, e0, ⟨vself0, _, rfl, hself0, vname0, _, rfl, hname0, rfl⟩, h, k⟩ := h
    rfl
  · obtain ⟨G, ⟨self0, name0, ⟨⟩⟩, r, e0, ⟨vself0, _, rfl, hself0, vname0, _, rfl, hname0, rfl⟩, h, k⟩ := h
    cases hname0
    have w0 := Wo.start e0
    have h : m_Record_answer self0 name0 = some r := h
    unfold m_Record_answer at h
    refine ⟨_, PSs.nox (pss_cons (ps_for PassesOwn.never rfl (pi_tup (SlX.pe_sl (pv 0) (by rfl))) (pg_tup (by rfl) (pgs_cons (pg_name (i := 2) nd rfl (by first | exact Or.inl rfl | exact Or.inr rfl)) (pgs_cons (pg_name (i := 3) nd rfl (by first | exact Or.inl rfl | exact Or.inr rfl)) pgs_nil))) (pss_cons (ps_if (pt_cmpR op_eq (pv 2) (pv 1) (nomark _)) (pss_cons (ps_ret (pv 3)) pss_nil) pss_nil) pss_nil)) (pss_cons (ps_ret pe_non) pss_nil)), ?_⟩
    obtain ⟨xs1719, hx1720, h⟩ := bindS h
    obtain ⟨t1722, hx1723, h⟩ := bindS h
    refine x_forT w0 (e_cv (c := fun x => x) (e_sl (fun (o : m_Record) => o.asks) (e_var (R := (r_Record K)) (x := self0) rfl hself0) (scl_ok (T.mo 1 rfl)) (slot_ok (T.mo 3 rfl)) (fun _ => (List.mem_cons_of_mem _ (List.mem_cons_self ..)))) rTd_t) hx1720 (fun i G' H' σ' => ∃ s1724 : Unit, ∃ u1725 : Option V, ∃ u1726 : Option V, Wo G H [] G' H' [] ∧ Evl.Ex G G' ∧ σ' = [some vself0, some (V.str name0), u1726, u1725] ∧ forL (m_Record_answer_b1 name0) (xs1719.drop i) s1724 = some t1722) (fun _ _ _ _ ⟨_, _, _, w, _⟩ => w.ex) ?_ ?_ ?_
    · intro G' H' w' e'
      exact ⟨(), (none), (none), w', e', rfl, hx1723⟩
    · rintro G1737 e1738 i1734 x1735 v1739 σ' G1730 H1733 hx1736 e1741 ⟨s1724, u1725, u1726, w1731, e1732, rfl, hm1728⟩ r1740
      obtain ⟨q1729, hb1727, hm1728⟩ := forL_at hx1736 hm1728
      have h1742 := Rep.mono _ e1732 hself0
      refine g_pair (i := 2) (j := 3) r1740 w1731.ex ?_
      intro v1743 v1744 r1745 r1746
      cases r1745
      cases r1746
      unfold m_Record_answer_b1 at hb1727
      obtain ⟨b1747, hx1748, hb1727⟩ := bindS hb1727
      refine x_if w1731 (et_T (e_op rr_eqS (e_var (R := rS) (x := x1735.1) rfl rfl) (e_var (R := rS) (x := name0) rfl rfl))) hx1748 ?_ ?_
      · intro hbb1747 H1749 w1750
        subst hbb1747
        have hb1727 := bifT hb1727
        obtain ⟨a1751, hx1752, hb1727⟩ := bindS hb1727
        have hb1727 : some (Stp.rt a1751) = some q1729 := hb1727
        cases hb1727
        have hm1728 : some (Sum.inr a1751) = some t1722 := hm1728
        cases hm1728
        have h : a1751 = r := Option.some.inj h
        subst h
        exact x_ret w1750 (e_some (e_var (R := rI) (x := x1735.2) rfl rfl)) hx1752 (fun v9 H9 G9 w9 e9 r9 => k v9 H9 G9 w9.upE r9)
      · intro hbb1747 H1753 w1754
        subst hbb1747
        have hb1727 := bifF hb1727
        refine x_next ?_
        refine x_next ?_
        have hb1727 : Stp.nx () = q1729 := Option.some.inj hb1727
        subst hb1727
        exact ⟨G1730, (e1741.trans (Evl.Ex.refl _)), (), (some (V.int x1735.2)), (some (V.str x1735.1)), w1754, e1732, rfl, hm1728⟩
    · rintro σ' G1755 H1758 e1759 ⟨s1724, u1725, u1726, w1756, e1757, rfl, hm1728⟩
      have hm1728 := forL_end hm1728
      subst hm1728
      have h := elimL h
      have h1761 := Rep.mono _ e1757 hself0
      obtain ⟨a1762, hx1763, h⟩ := bindS h
      have h : a1762 = r := Option.some.inj h
      subst h
      exact x_ret w1756 (e_none (R := rI)) hx1763 (fun v9 H9 G9 w9 e9 r9 => k v9 H9 G9 w9.upE r9)
def m_same_start_b1 (x1786 : ((Str × Int) × (Str × Int))) (s1775 : Int) : Option (Stp Int Int) :=
  (some (!decide (x1786.1 = x1786.2)) >>= fun b1799 => bif b1799 then (some s1775 >>= fun a1803 => some (Stp.rt a1803)) else (some (1 : Int) >>= fun b1807 => some (s1775 + b1807) >>= fun count_1808 => some (Stp.nx count_1808)))
def m_same_start (first0 : m_Record) (second0 : m_Record) : Option Int :=
  (some (0 : Int) >>= fun count_1764 => (some first0.asks >>= fun zs1768 => some second0.asks >>= fun zs1770 => forL (m_same_start_b1) (List.zip zs1768 zs1770) count_1764 >>= Sum.elim (fun s1775 => (some s1775 >>= fun a1821 => some a1821)) (fun r => some r)))
theorem sc_same_start : FnScope ["first", "second", "count", "one", "other"] ["first", "second"] (defScope s_same_start) := ⟨rfl, rfl, rfl, by decide +kernel, rfl, by decide +kernel, by decide +kernel⟩
theorem ok_same_start (T : Tx K mg) : Fk P w K mg base CX0 1 "same_start" ["first", "second"] (PF (aC (r_Record K) (aC (r_Record K) aN)) rI (fun i => m_same_start i.1 i.2.1)) := by
  obtain ⟨fd, F⟩ := T.def_ 2 rfl
  have nd := sc_same_start.nd
  refine fk_mk T.toTx (x := "same_start") (T.glo 9 rfl) F (fun _ _ _ _ _ _ us hl => match us, hl with | [_, _], _ => rfl) (F.ok sc_same_start (fun vs H Q E h => ?_) (fun cdv A outer s H vs Q E hr h => ?_))
  · obtain ⟨G, ⟨first0, second0, ⟨⟩⟩, r, e0, ⟨vfirst0, _, rfl, hfirst0, vsecond0, _, rfl, hsecond0, rfl⟩, h, k⟩ := h
    rfl
  · obtain ⟨G, ⟨first0, second0, ⟨⟩⟩, r, e0, ⟨vfirst0, _, rfl, hfirst0, vsecond0, _, rfl, hsecond0, rfl⟩, h, k⟩ := h
    have w0 := Wo.start e0
    have h : m_same_start first0 second0 = some r := h
    unfold m_same_start at h
    refine ⟨_, PSs.nox (pss_cons (ps_set (i := 2) nd rfl (Or.inl rfl) pe_int) (pss_cons (ps_for PassesOwn.never rfl (RZ.pi_zipA (by rfl) (fr_zip T) (pa_cons (SlX.pe_sl (pv 0) (by rfl)) (pa_cons (SlX.pe_sl (pv 1) (by rfl)) pa_nil))) (pg_tup (by rfl) (pgs_cons (pg_name (i := 3) nd rfl (by first | exact Or.inl rfl | exact Or.inr rfl)) (pgs_cons (pg_name (i := 4) nd rfl (by first | exact Or.inl rfl | exact Or.inr rfl)) pgs_nil))) (pss_cons (ps_if (pt_cmpR (r := rNeP K) (op_neP hr.units) (pv 3) (pv 4) (nomark _)) (pss_cons (ps_ret (pv 2)) pss_nil) pss_nil) (pss_cons (ps_aug (i := 2) nd rfl (Or.inl rfl) pe_int ip_add) pss_nil))) (pss_cons (ps_ret (pv 2)) pss_nil))), ?_⟩
    obtain ⟨count_1764, hx1765, h⟩ := bindS h
    refine x_setI w0 e_int hx1765 ?_
    intro H1766 w1767
    obtain ⟨zs1768, hx1769, h⟩ := bindS h
    obtain ⟨zs1770, hx1771, h⟩ := bindS h
    obtain ⟨t1773, hx1774, h⟩ := bindS h
    refine x_forZ w1767 (ea_cons (Sim.E.is (e_cv (c := fun x => x) (e_sl (fun (o : m_Record) => o.asks) (e_var (R := (r_Record K)) (x := first0) rfl hfirst0) (scl_ok (T.mo 1 rfl)) (slot_ok (T.mo 3 rfl)) (fun _ => (List.mem_cons_of_mem _ (List.mem_cons_self ..)))) rTd_t) hx1769) (ea_cons (Sim.E.is (e_cv (c := fun x => x) (e_sl (fun (o : m_Record) => o.asks) (e_var (R := (r_Record K)) (x := second0) rfl hsecond0) (scl_ok (T.mo 1 rfl)) (slot_ok (T.mo 3 rfl)) (fun _ => (List.mem_cons_of_mem _ (List.mem_cons_self ..)))) rTd_t) hx1771) ea_nil)) rfl (fun i G' H' σ' => ∃ s1775 : Int, ∃ u1776 : Option V, ∃ u1777 : Option V, Wo G H [] G' H' [] ∧ Evl.Ex G G' ∧ σ' = [some vfirst0, some vsecond0, some (V.int s1775), u1776, u1777] ∧ forL (m_same_start_b1) ((List.zip zs1768 zs1770).drop i) s1775 = some t1773) (fun _ _ _ _ ⟨_, _, _, w, _⟩ => w.ex) (by rintro _ _ _ _ _ _ ⟨zs, u1776, u1777, zw, ze, zq, zm⟩ hT; exact ⟨zs, u1776, u1777, zw.up (Up.lay zw.ex hT), ze.trans (Evl.Ex.new (Evl.fresh_back zw.ex hT)), zq, zm⟩) ?_ ?_ ?_
    · intro G' H' w' e'
      exact ⟨count_1764, (none), (none), w', e', rfl, hx1774⟩
    · rintro G1788 e1789 i1785 x1786 v1790 σ' G1781 H1784 hx1787 e1792 ⟨s1775, u1776, u1777, w1782, e1783, rfl, hm1779⟩ r1791
      obtain ⟨q1780, hb1778, hm1779⟩ := forL_at hx1787 hm1779
      have h1793 := Rep.mono _ e1783 hfirst0
      have h1794 := Rep.mono _ e1783 hsecond0
      refine g_pair (i := 3) (j := 4) r1791 w1782.ex ?_
      intro v1795 v1796 r1797 r1798
      unfold m_same_start_b1 at hb1778
      obtain ⟨b1799, hx1800, hb1778⟩ := bindS hb1778
      refine x_if w1782 (et_T (e_op (rr_neD (dtP dtS dtI) (by decide)) (e_var (R := (rP rS rI)) (x := x1786.1) rfl (Rep.mono _ w1782.ex r1797)) (e_var (R := (rP rS rI)) (x := x1786.2) rfl (Rep.mono _ w1782.ex r1798)))) hx1800 ?_ ?_
      · intro hbb1799 H1801 w1802
        subst hbb1799
        have hb1778 := bifT hb1778
        obtain ⟨a1803, hx1804, hb1778⟩ := bindS hb1778
        have hb1778 : some (Stp.rt a1803) = some q1780 := hb1778
        cases hb1778
        have hm1779 : some (Sum.inr a1803) = some t1773 := hm1779
        cases hm1779
        have h : a1803 = r := Option.some.inj h
        subst h
        exact x_ret w1802 (e_var (R := rI) (x := s1775) rfl rfl) hx1804 (fun v9 H9 G9 w9 e9 r9 => k v9 H9 G9 w9.upE r9)
      · intro hbb1799 H1805 w1806
        subst hbb1799
        have hb1778 := bifF hb1778
        refine x_next ?_
        obtain ⟨b1807, hx1809, hb1778⟩ := bindS hb1778
        obtain ⟨count_1808, hx1810, hb1778⟩ := bindS hb1778
        refine x_aug w1806 rfl e_int hx1809 rr_add hx1810 ?_
        intro H1811 w1812
        refine x_next ?_
        have hb1778 : Stp.nx count_1808 = q1780 := Option.some.inj hb1778
        subst hb1778
        exact ⟨G1781, (e1792.trans (Evl.Ex.refl _)), count_1808, (some v1795), (some v1796), w1812, e1783, rfl, hm1779⟩
    · rintro σ' G1813 H1816 e1817 ⟨s1775, u1776, u1777, w1814, e1815, rfl, hm1779⟩
      have hm1779 := forL_end hm1779
      subst hm1779
      have h := elimL h
      have h1819 := Rep.mono _ e1815 hfirst0
      have h1820 := Rep.mono _ e1815 hsecond0
      obtain ⟨a1821, hx1822, h⟩ := bindS h
      have h : a1821 = r := Option.some.inj h
      subst h
      exact x_ret w1814 (e_var (R := rI) (x := s1775) rfl rfl) hx1822 (fun v9 H9 G9 w9 e9 r9 => k v9 H9 G9 w9.upE r9)
def m_shape_clash (first0 : m_Record) (second0 : m_Record) : Option Bool :=
  (m_same_start first0 second0 >>= fun start_1823 => (some ((start_1823 == (first0.asks.length : Int)) || (start_1823 == (second0.asks.length : Int))) >>= fun b1827 => bif b1827 then (some (!((first0.asks.length : Int) == (second0.asks.length : Int))) >>= fun a1831 => some a1831) else (((atI first0.asks start_1823 >>= fun t1835 => some t1835.1) >>= fun t1837 => ((atI second0.asks start_1823 >>= fun t1836 => some t1836.1) >>= fun t1838 => some (!(decide (t1837 = t1838))))) >>= fun a1839 => some a1839)))
theorem sc_shape_clash : FnScope ["first", "second", "start"] ["first", "second"] (defScope s_shape_clash) := ⟨rfl, rfl, rfl, by decide +kernel, rfl, by decide +kernel, by decide +kernel⟩
theorem ok_shape_clash (T : Tx K mg) : Fk P w K mg base CX0 2 "shape_clash" ["first", "second"] (PF (aC (r_Record K) (aC (r_Record K) aN)) rB (fun i => m_shape_clash i.1 i.2.1)) := by
  obtain ⟨fd_same_start, G_same_start, b_same_start, k_same_start, g_same_start⟩ := ok_same_start (w := w) (base := base) T
  obtain ⟨fd, F⟩ := T.def_ 3 rfl
  have nd := sc_shape_clash.nd
  refine fk_mk T.toTx (x := "shape_clash") (T.glo 10 rfl) F (fun _ _ _ _ _ _ us hl => match us, hl with | [_, _], _ => rfl) (F.ok sc_shape_clash (fun vs H Q E h => ?_) (fun cdv A outer s H vs Q E hr h => ?_))
  · obtain ⟨G, ⟨first0, second0, ⟨⟩⟩, r, e0, ⟨vfirst0, _, rfl, hfirst0, vsecond0, _, rfl, hsecond0, rfl⟩, h, k⟩ := h
    rfl
  · obtain ⟨G, ⟨first0, second0, ⟨⟩⟩, r, e0, ⟨vfirst0, _, rfl, hfirst0, vsecond0, _, rfl, hsecond0, rfl⟩, h, k⟩ := h
    have w0 := Wo.start e0
    have h : m_shape_clash first0 second0 = some r := h
    unfold m_shape_clash at h
    refine ⟨_, PSs.nox (pss_cons (ps_set (i := 2) nd rfl (Or.inl rfl) (pe_call G_same_start (hr.mono (by decide)) rfl g_same_start k_same_start b_same_start .nil pass0 (pa_cons (pv 0) (pa_cons (pv 1) pa_nil)))) (pss_cons (ps_if (PW.pt (pw_or (pt_cmpR op_eq (pv 2) (pe_callB (r := rLn K) call_len_seq (by rfl) (fr_len T) (by decide +kernel) (pa_cons (show L2.PE _ _ (SlX.tSl K _ _) from (SlX.pe_sl (pv 0) (by rfl))) pa_nil)) (nomark _)) (pw_or1 (pt_cmpR op_eq (pv 2) (pe_callB (r := rLn K) call_len_seq (by rfl) (fr_len T) (by decide +kernel) (pa_cons (show L2.PE _ _ (SlX.tSl K _ _) from (SlX.pe_sl (pv 1) (by rfl))) pa_nil)) (nomark _))))) (pss_cons (ps_ret (pe_cmpR op_ne (pe_callB (r := rLn K) call_len_seq (by rfl) (fr_len T) (by decide +kernel) (pa_cons (SlX.pe_sl (pv 0) (by rfl)) pa_nil)) (pe_callB (r := rLn K) call_len_seq (by rfl) (fr_len T) (by decide +kernel) (pa_cons (SlX.pe_sl (pv 1) (by rfl)) pa_nil)) (nomark _))) pss_nil) pss_nil) (pss_cons (ps_ret (pe_cmpR op_ne (pe_ix (r := rIxT K) ix_tup (pe_ix (r := rIxT K) ix_tup (SlX.pe_sl (pv 0) (by rfl)) (pv 2) (fun _ _ => rfl)) pe_int (fun _ _ => rfl)) (pe_ix (r := rIxT K) ix_tup (pe_ix (r := rIxT K) ix_tup (SlX.pe_sl (pv 1) (by rfl)) (pv 2) (fun _ _ => rfl)) pe_int (fun _ _ => rfl)) (nomark _))) pss_nil))), ?_⟩
    obtain ⟨start_1823, hx1824, h⟩ := bindS h
    refine x_setI w0 (e_call (ea_cons (e_var (R := (r_Record K)) (x := first0) rfl hfirst0) (ea_cons (e_var (R := (r_Record K)) (x := second0) rfl hsecond0) ea_nil))) (by first | (simp only [be1, bs1, ba1] at hx1824 ⊢; exact hx1824) | exact hx1824) ?_
    intro H1825 w1826
    obtain ⟨b1827, hx1828, h⟩ := bindS h
    refine x_if w1826 (et_orP (et_T (e_op rr_eqI (e_var (R := rI) (x := start_1823) rfl rfl) (e_cb rc_lenT (ea_cons (e_cv (c := fun x => x) (e_sl (fun (o : m_Record) => o.asks) (e_var (R := (r_Record K)) (x := first0) rfl (Rep.mono _ w1826.ex hfirst0)) (scl_ok (T.mo 1 rfl)) (slot_ok (T.mo 3 rfl)) (fun _ => (List.mem_cons_of_mem _ (List.mem_cons_self ..)))) rTd_t) ea_nil)))) (et_T (e_op rr_eqI (e_var (R := rI) (x := start_1823) rfl rfl) (e_cb rc_lenT (ea_cons (e_cv (c := fun x => x) (e_sl (fun (o : m_Record) => o.asks) (e_var (R := (r_Record K)) (x := second0) rfl (Rep.mono _ w1826.ex hsecond0)) (scl_ok (T.mo 1 rfl)) (slot_ok (T.mo 3 rfl)) (fun _ => (List.mem_cons_of_mem _ (List.mem_cons_self ..)))) rTd_t) ea_nil))))) hx1828 ?_ ?_
    · intro hbb1827 H1829 w1830
      subst hbb1827
      have h := bifT h
      obtain ⟨a1831, hx1832, h⟩ := bindS h
      have h : a1831 = r := Option.some.inj h
      subst h
      exact x_ret w1830 (e_op rr_neI (e_cb rc_lenT (ea_cons (e_cv (c := fun x => x) (e_sl (fun (o : m_Record) => o.asks) (e_var (R := (r_Record K)) (x := first0) rfl hfirst0) (scl_ok (T.mo 1 rfl)) (slot_ok (T.mo 3 rfl)) (fun _ => (List.mem_cons_of_mem _ (List.mem_cons_self ..)))) rTd_t) ea_nil)) (e_cb rc_lenT (ea_cons (e_cv (c := fun x => x) (e_sl (fun (o : m_Record) => o.asks) (e_var (R := (r_Record K)) (x := second0) rfl hsecond0) (scl_ok (T.mo 1 rfl)) (slot_ok (T.mo 3 rfl)) (fun _ => (List.mem_cons_of_mem _ (List.mem_cons_self ..)))) rTd_t) ea_nil))) hx1832 (fun v9 H9 G9 w9 e9 r9 => k v9 H9 G9 w9.upE r9)
    · intro hbb1827 H1833 w1834
      subst hbb1827
      have h := bifF h
      refine x_next ?_
      obtain ⟨a1839, hx1840, h⟩ := bindS h
      have h : a1839 = r := Option.some.inj h
      subst h
      exact x_ret w1834 (e_op rr_neS (e_fst (e_op rr_ixT (e_cv (c := fun x => x) (e_sl (fun (o : m_Record) => o.asks) (e_var (R := (r_Record K)) (x := first0) rfl hfirst0) (scl_ok (T.mo 1 rfl)) (slot_ok (T.mo 3 rfl)) (fun _ => (List.mem_cons_of_mem _ (List.mem_cons_self ..)))) rTd_t) (e_var (R := rI) (x := start_1823) rfl rfl))) (e_fst (e_op rr_ixT (e_cv (c := fun x => x) (e_sl (fun (o : m_Record) => o.asks) (e_var (R := (r_Record K)) (x := second0) rfl hsecond0) (scl_ok (T.mo 1 rfl)) (slot_ok (T.mo 3 rfl)) (fun _ => (List.mem_cons_of_mem _ (List.mem_cons_self ..)))) rTd_t) (e_var (R := rI) (x := start_1823) rfl rfl)))) (by first | (simp only [be1, bs1, ba1] at hx1840 ⊢; exact hx1840) | exact hx1840) (fun v9 H9 G9 w9 e9 r9 => k v9 H9 G9 w9.upE r9)
def m_falls_b1 (upper0 : m_Record) (order0 : m_Order) (x1858 : (Str × Int)) (s1846 : Unit) : Option (Stp Unit Bool) :=
  (m_Record_answer upper0 x1858.1 >>= fun other_1872 => ((andO (some other_1872.isSome) (((other_1872 >>= fun t1883 => m_Order_below order0 x1858.2 t1883) >>= fun t1884 => some (!t1884)))) >>= fun b1885 => bif b1885 then (some false >>= fun a1889 => some (Stp.rt a1889)) else some (Stp.nx ())))
def m_falls (lower0 : m_Record) (upper0 : m_Record) (order0 : m_Order) : Option Bool :=
  (some lower0.asks >>= fun xs1841 => forL (m_falls_b1 upper0 order0) xs1841 () >>= Sum.elim (fun s1846 => ((m_Order_below order0 lower0.result upper0.result >>= fun t1902 => some (!t1902)) >>= fun a1903 => some a1903)) (fun r => some r))
theorem sc_falls : FnScope ["lower", "upper", "order", "name", "answer", "other"] ["lower", "upper", "order"] (defScope s_falls) := ⟨rfl, rfl, rfl, by decide +kernel, rfl, by decide +kernel, by decide +kernel⟩
theorem ok_falls (T : Tx K mg) : Fk P w K mg base CX0 3 "falls" ["lower", "upper", "order"] (PF (aC (r_Record K) (aC (r_Record K) (aC (r_Order K) aN))) rB (fun i => m_falls i.1 i.2.1 i.2.2.1)) := by
  obtain ⟨fd_Record_answer, G_Record_answer, b_Record_answer⟩ := ok_Record_answer (w := w) (base := base) T
  obtain ⟨fd_Order_below, G_Order_below, b_Order_below⟩ := ok_Order_below (w := w) (base := base) T
  obtain ⟨fd, F⟩ := T.def_ 4 rfl
  have nd := sc_falls.nd
  refine fk_mk T.toTx (x := "falls") (T.glo 11 rfl) F (fun _ _ _ _ _ _ us hl => match us, hl with | [_, _, _], _ => rfl) (F.ok sc_falls (fun vs H Q E h => ?_) (fun cdv A outer s H vs Q E hr h => ?_))
  · obtain ⟨G, ⟨lower0, upper0, order0, ⟨⟩⟩, r, e0, ⟨vlower0, _, rfl, hlower0, vupper0, _, rfl, hupper0, vorder0, _, rfl, horder0, rfl⟩, h, k⟩ := h
    rfl
  · obtain ⟨G, ⟨lower0, upper0, order0, ⟨⟩⟩, r, e0, ⟨vlower0, _, rfl, hlower0, vupper0, _, rfl, hupper0, vorder0, _, rfl, horder0, rfl⟩, h, k⟩ := h
    have w0 := Wo.start e0
    have h : m_falls lower0 upper0 order0 = some r := h
    unfold m_falls at h
    refine ⟨_, PSs.nox (pss_cons (ps_for PassesOwn.never rfl (pi_tup (SlX.pe_sl (pv 0) (by rfl))) (pg_tup (by rfl) (pgs_cons (pg_name (i := 3) nd rfl (by first | exact Or.inl rfl | exact Or.inr rfl)) (pgs_cons (pg_name (i := 4) nd rfl (by first | exact Or.inl rfl | exact Or.inr rfl)) pgs_nil))) (pss_cons (ps_set (i := 5) nd rfl (Or.inl rfl) (SlX.pe_methSl (pv 1) (scl_ok (T.mo 1 rfl)) (T.meth 58 rfl) (fnR_of G_Record_answer b_Record_answer) (hr.mono (by decide)) pass0 (pa_cons (pv 3) pa_nil))) (pss_cons (ps_if (PW.pt (pw_and (pt_cmpR op_notN (pv 5) pe_non (nomark _)) (pw_and1 (pt_not (pt_val (pe_meth (pv 2) (T.cls 51 rfl) (T.meth 59 rfl) G_Order_below (hr.mono (by decide)) b_Order_below .nil pass0 (pa_cons (pv 4) (pa_cons (pv 5) pa_nil)))))))) (pss_cons (ps_ret pe_bl) pss_nil) pss_nil) pss_nil))) (pss_cons (ps_ret (pe_not (pe_meth (pv 2) (T.cls 51 rfl) (T.meth 59 rfl) G_Order_below (hr.mono (by decide)) b_Order_below .nil pass0 (pa_cons (SlX.pe_sl (pv 0) (by rfl)) (pa_cons (SlX.pe_sl (pv 1) (by rfl)) pa_nil))))) pss_nil)), ?_⟩
    obtain ⟨xs1841, hx1842, h⟩ := bindS h
    obtain ⟨t1844, hx1845, h⟩ := bindS h
    refine x_forT w0 (e_cv (c := fun x => x) (e_sl (fun (o : m_Record) => o.asks) (e_var (R := (r_Record K)) (x := lower0) rfl hlower0) (scl_ok (T.mo 1 rfl)) (slot_ok (T.mo 3 rfl)) (fun _ => (List.mem_cons_of_mem _ (List.mem_cons_self ..)))) rTd_t) hx1842 (fun i G' H' σ' => ∃ s1846 : Unit, ∃ u1847 : Option V, ∃ u1848 : Option V, ∃ u1849 : Option V, Wo G H [] G' H' [] ∧ Evl.Ex G G' ∧ σ' = [some vlower0, some vupper0, some vorder0, u1848, u1847, u1849] ∧ forL (m_falls_b1 upper0 order0) (xs1841.drop i) s1846 = some t1844) (fun _ _ _ _ ⟨_, _, _, _, w, _⟩ => w.ex) ?_ ?_ ?_
    · intro G' H' w' e'
      exact ⟨(), (none), (none), (none), w', e', rfl, hx1845⟩
    · rintro G1860 e1861 i1857 x1858 v1862 σ' G1853 H1856 hx1859 e1864 ⟨s1846, u1847, u1848, u1849, w1854, e1855, rfl, hm1851⟩ r1863
      obtain ⟨q1852, hb1850, hm1851⟩ := forL_at hx1859 hm1851
      have h1865 := Rep.mono _ e1855 hlower0
      have h1866 := Rep.mono _ e1855 hupper0
      have h1867 := Rep.mono _ e1855 horder0
      refine g_pair (i := 3) (j := 4) r1863 w1854.ex ?_
      intro v1868 v1869 r1870 r1871
      cases r1870
      cases r1871
      unfold m_falls_b1 at hb1850
      obtain ⟨other_1872, hx1873, hb1850⟩ := bindS hb1850
      refine x_set w1854 (e_methS (e_var (R := (r_Record K)) (x := upper0) rfl h1866) (ea_cons (e_var (R := rS) (x := x1858.1) rfl rfl) ea_nil)) (by first | (simp only [be1, bs1, ba1] at hx1873 ⊢; exact hx1873) | exact hx1873) ?_
      intro v1876 H1874 G1877 w1875 e1878 h1879
      have h1880 := Rep.mono _ e1878 h1865
      have h1881 := Rep.mono _ e1878 h1866
      have h1882 := Rep.mono _ e1878 h1867
      obtain ⟨b1885, hx1886, hb1850⟩ := bindS hb1850
      refine x_if w1875 (et_and (et_T (e_op (rr_notN nnI) (e_var (R := (rO rI)) (x := other_1872) rfl (Rep.mono _ w1875.ex h1879)) e_non)) (et_not (et_B (e_meth (e_var (R := (r_Order K)) (x := order0) rfl (Rep.mono _ w1875.ex h1882)) (ea_cons (e_var (R := rI) (x := x1858.2) rfl rfl) (ea_cons (e_get (e_var (R := (rO rI)) (x := other_1872) rfl (Rep.mono _ w1875.ex h1879))) ea_nil)) (by decide +kernel))))) (by first | (simp only [be1, bs1, ba1] at hx1886 ⊢; exact hx1886) | exact hx1886) ?_ ?_
      · intro hbb1885 H1887 w1888
        subst hbb1885
        have hb1850 := bifT hb1850
        obtain ⟨a1889, hx1890, hb1850⟩ := bindS hb1850
        have hb1850 : some (Stp.rt a1889) = some q1852 := hb1850
        cases hb1850
        have hm1851 : some (Sum.inr a1889) = some t1844 := hm1851
        cases hm1851
        have h : a1889 = r := Option.some.inj h
        subst h
        exact x_ret w1888 e_bl hx1890 (fun v9 H9 G9 w9 e9 r9 => k v9 H9 G9 w9.upE r9)
      · intro hbb1885 H1891 w1892
        subst hbb1885
        have hb1850 := bifF hb1850
        refine x_next ?_
        refine x_next ?_
        have hb1850 : Stp.nx () = q1852 := Option.some.inj hb1850
        subst hb1850
        exact ⟨G1877, (e1864.trans e1878), (), (some (V.int x1858.2)), (some (V.str x1858.1)), (some v1876), w1892, (e1855.trans e1878), rfl, hm1851⟩
    · rintro σ' G1893 H1896 e1897 ⟨s1846, u1847, u1848, u1849, w1894, e1895, rfl, hm1851⟩
      have hm1851 := forL_end hm1851
      subst hm1851
      have h := elimL h
      have h1899 := Rep.mono _ e1895 hlower0
      have h1900 := Rep.mono _ e1895 hupper0
      have h1901 := Rep.mono _ e1895 horder0
      obtain ⟨a1903, hx1904, h⟩ := bindS h
      have h : a1903 = r := Option.some.inj h
      subst h
      exact x_ret w1894 (e_notV (e_meth (e_var (R := (r_Order K)) (x := order0) rfl h1901) (ea_cons (e_sl (fun (o : m_Record) => o.result) (e_var (R := (r_Record K)) (x := lower0) rfl h1899) (scl_ok (T.mo 1 rfl)) (slot_ok (T.mo 4 rfl)) (fun _ => (List.mem_cons_of_mem _ (List.mem_cons_of_mem _ (List.mem_cons_self ..))))) (ea_cons (e_sl (fun (o : m_Record) => o.result) (e_var (R := (r_Record K)) (x := upper0) rfl h1900) (scl_ok (T.mo 1 rfl)) (slot_ok (T.mo 4 rfl)) (fun _ => (List.mem_cons_of_mem _ (List.mem_cons_of_mem _ (List.mem_cons_self ..))))) ea_nil)) (by decide +kernel))) (by first | (simp only [be1, bs1, ba1] at hx1904 ⊢; exact hx1904) | exact hx1904) (fun v9 H9 G9 w9 e9 r9 => k v9 H9 G9 w9.upE r9)
def m_clash (first0 : m_Record) (second0 : m_Record) (order0 : m_Order) : Option (Option Str) :=
  (some (!(decide (first0.name = second0.name))) >>= fun b1905 => bif b1905 then (some (none : (Option Str)) >>= fun a1909 => some a1909) else (m_shape_clash first0 second0 >>= fun b1913 => bif b1913 then (some (some ("shape" : Str)) >>= fun a1917 => some a1917) else ((orO (m_falls first0 second0 order0) (m_falls second0 first0 order0)) >>= fun b1921 => bif b1921 then (some (some ("values" : Str)) >>= fun a1925 => some a1925) else (some (none : (Option Str)) >>= fun a1929 => some a1929))))
theorem sc_clash : FnScope ["first", "second", "order"] ["first", "second", "order"] (defScope s_clash) := ⟨rfl, rfl, rfl, by decide +kernel, rfl, by decide +kernel, by decide +kernel⟩
theorem ok_clash (T : Tx K mg) : Fk P w K mg base CX0 4 "clash" ["first", "second", "order"] (PF (aC (r_Record K) (aC (r_Record K) (aC (r_Order K) aN))) (rO rS) (fun i => m_clash i.1 i.2.1 i.2.2.1)) := by
  obtain ⟨fd_shape_clash, G_shape_clash, b_shape_clash, k_shape_clash, g_shape_clash⟩ := ok_shape_clash (w := w) (base := base) T
  obtain ⟨fd_falls, G_falls, b_falls, k_falls, g_falls⟩ := ok_falls (w := w) (base := base) T
  obtain ⟨fd, F⟩ := T.def_ 5 rfl
  have nd := sc_clash.nd
  refine fk_mk T.toTx (x := "clash") (T.glo 12 rfl) F (fun _ _ _ _ _ _ us hl => match us, hl with | [_, _, _], _ => rfl) (F.ok sc_clash (fun vs H Q E h => ?_) (fun cdv A outer s H vs Q E hr h => ?_))
  · obtain ⟨G, ⟨first0, second0, order0, ⟨⟩⟩, r, e0, ⟨vfirst0, _, rfl, hfirst0, vsecond0, _, rfl, hsecond0, vorder0, _, rfl, horder0, rfl⟩, h, k⟩ := h
    rfl
  · obtain ⟨G, ⟨first0, second0, order0, ⟨⟩⟩, r, e0, ⟨vfirst0, _, rfl, hfirst0, vsecond0, _, rfl, hsecond0, vorder0, _, rfl, horder0, rfl⟩, h, k⟩ := h
    have w0 := Wo.start e0
    have h : m_clash first0 second0 order0 = some r := h
    unfold m_clash at h
    refine ⟨_, PSs.nox (pss_cons (ps_if (pt_cmpR op_ne (show L2.PE _ _ (SlX.tSl K _ _) from (SlX.pe_sl (pv 0) (by rfl))) (show L2.PE _ _ (SlX.tSl K _ _) from (SlX.pe_sl (pv 1) (by rfl))) (nomark _)) (pss_cons (ps_ret pe_non) pss_nil) pss_nil) (pss_cons (ps_if (pt_val (pe_call G_shape_clash (hr.mono (by decide)) rfl g_shape_clash k_shape_clash b_shape_clash .nil pass0 (pa_cons (pv 0) (pa_cons (pv 1) pa_nil)))) (pss_cons (ps_ret pe_str) pss_nil) pss_nil) (pss_cons (ps_if (PW.pt (pw_or (pt_val (pe_call G_falls (hr.mono (by decide)) rfl g_falls k_falls b_falls .nil pass0 (pa_cons (pv 0) (pa_cons (pv 1) (pa_cons (pv 2) pa_nil))))) (pw_or1 (pt_val (pe_call G_falls (hr.mono (by decide)) rfl g_falls k_falls b_falls .nil pass0 (pa_cons (pv 1) (pa_cons (pv 0) (pa_cons (pv 2) pa_nil)))))))) (pss_cons (ps_ret pe_str) pss_nil) pss_nil) (pss_cons (ps_ret pe_non) pss_nil)))), ?_⟩
    obtain ⟨b1905, hx1906, h⟩ := bindS h
    refine x_if w0 (et_T (e_op rr_neS (e_sl (fun (o : m_Record) => o.name) (e_var (R := (r_Record K)) (x := first0) rfl (Rep.mono _ w0.ex hfirst0)) (scl_ok (T.mo 1 rfl)) (slot_ok (T.mo 2 rfl)) (fun _ => (List.mem_cons_self ..))) (e_sl (fun (o : m_Record) => o.name) (e_var (R := (r_Record K)) (x := second0) rfl (Rep.mono _ w0.ex hsecond0)) (scl_ok (T.mo 1 rfl)) (slot_ok (T.mo 2 rfl)) (fun _ => (List.mem_cons_self ..))))) hx1906 ?_ ?_
    · intro hbb1905 H1907 w1908
      subst hbb1905
      have h := bifT h
      obtain ⟨a1909, hx1910, h⟩ := bindS h
      have h : a1909 = r := Option.some.inj h
      subst h
      exact x_ret w1908 (e_none (R := rS)) hx1910 (fun v9 H9 G9 w9 e9 r9 => k v9 H9 G9 w9.upE r9)
    · intro hbb1905 H1911 w1912
      subst hbb1905
      have h := bifF h
      refine x_next ?_
      obtain ⟨b1913, hx1914, h⟩ := bindS h
      refine x_if w1912 (et_B (e_call (ea_cons (e_var (R := (r_Record K)) (x := first0) rfl (Rep.mono _ w1912.ex hfirst0)) (ea_cons (e_var (R := (r_Record K)) (x := second0) rfl (Rep.mono _ w1912.ex hsecond0)) ea_nil)))) (by first | (simp only [be1, bs1, ba1] at hx1914 ⊢; exact hx1914) | exact hx1914) ?_ ?_
      · intro hbb1913 H1915 w1916
        subst hbb1913
        have h := bifT h
        obtain ⟨a1917, hx1918, h⟩ := bindS h
        have h : a1917 = r := Option.some.inj h
        subst h
        exact x_ret w1916 (e_some e_str) hx1918 (fun v9 H9 G9 w9 e9 r9 => k v9 H9 G9 w9.upE r9)
      · intro hbb1913 H1919 w1920
        subst hbb1913
        have h := bifF h
        refine x_next ?_
        obtain ⟨b1921, hx1922, h⟩ := bindS h
        refine x_if w1920 (et_or (et_B (e_call (ea_cons (e_var (R := (r_Record K)) (x := first0) rfl (Rep.mono _ w1920.ex hfirst0)) (ea_cons (e_var (R := (r_Record K)) (x := second0) rfl (Rep.mono _ w1920.ex hsecond0)) (ea_cons (e_var (R := (r_Order K)) (x := order0) rfl (Rep.mono _ w1920.ex horder0)) ea_nil))))) (et_B (e_call (ea_cons (e_var (R := (r_Record K)) (x := second0) rfl (Rep.mono _ w1920.ex hsecond0)) (ea_cons (e_var (R := (r_Record K)) (x := first0) rfl (Rep.mono _ w1920.ex hfirst0)) (ea_cons (e_var (R := (r_Order K)) (x := order0) rfl (Rep.mono _ w1920.ex horder0)) ea_nil)))))) (by first | (simp only [be1, bs1, ba1] at hx1922 ⊢; exact hx1922) | exact hx1922) ?_ ?_
        · intro hbb1921 H1923 w1924
          subst hbb1921
          have h := bifT h
          obtain ⟨a1925, hx1926, h⟩ := bindS h
          have h : a1925 = r := Option.some.inj h
          subst h
          exact x_ret w1924 (e_some e_str) hx1926 (fun v9 H9 G9 w9 e9 r9 => k v9 H9 G9 w9.upE r9)
        · intro hbb1921 H1927 w1928
          subst hbb1921
          have h := bifF h
          refine x_next ?_
          obtain ⟨a1929, hx1930, h⟩ := bindS h
          have h : a1929 = r := Option.some.inj h
          subst h
          exact x_ret w1928 (e_none (R := rS)) hx1930 (fun v9 H9 G9 w9 e9 r9 => k v9 H9 G9 w9.upE r9)
def m__law_row_b1 (size0 : Int) (x2014 : Int) (s2003 : ((List (Str × Int)) × ((List Int) × (List Str)))) : Option ((List (Str × Int)) × ((List Int) × (List Str))) :=
  (some (s2003.2.2.length : Int) >>= fun x2019 => (m__law_draw s2003.2.1 x2019 >>= fun x2024 => (popAtM s2003.2.2 x2024.1 >>= fun x2036 => (some x2036.1 >>= fun x2042 => (some size0 >>= fun x2047 => (m__law_draw x2024.2 x2047 >>= fun x2052 => (appM s2003.1 (x2042, x2052.1) >>= fun asks_2074 => some ((asks_2074, (x2052.2, x2036.2))))))))))
def m__law_row (pot_here0 : (List Int)) (names_here0 : (List Str)) (size0 : Int) (start0 : (List (Str × Int))) : Option ((List (Str × Int)) × (List Int)) :=
  (mapS (fun x1934 => some x1934.1) start0 >>= fun used_1940 => (lcS (fun x1953 => some (!used_1940.any fun z => z == x1953)) (fun x1953 => some x1953) names_here0 >>= fun rest_1959 => (some start0 >>= fun asks_1970 => (some ((1 : Int) + (rest_1959.length : Int)) >>= fun x1981 => (m__law_draw pot_here0 x1981 >>= fun x1986 => (rngM 0 x1986.1 >>= fun xs1998 => forS (m__law_row_b1 size0) xs1998 (asks_1970, (x1986.2, rest_1959)) >>= fun s2003 => some (s2003.1, s2003.2.1)))))))
theorem sc__law_row : FnScope ["_law_pot_here", "_law_names_here", "_law_size", "_law_start", "_law_used", "_law_rest", "_law_asks", "_law_k", "_law_name", "_law_pair"] ["_law_pot_here", "_law_names_here", "_law_size", "_law_start"] (defScope s__law_row) := ⟨rfl, rfl, rfl, by decide +kernel, rfl, by decide +kernel, by decide +kernel⟩
theorem ok__law_row (T : Tx K mg) : Fk P w K mg base CX0 2 "_law_row" ["_law_pot_here", "_law_names_here", "_law_size", "_law_start"] (P1L (aC (rL rS) (aC rI (aC (rL (rP rS rI)) aN))) rI (rP rS rI) (fun ys i => m__law_row ys i.1 i.2.1 i.2.2.1)) := by
  obtain ⟨fd__law_draw, G__law_draw, b__law_draw, k__law_draw, g__law_draw⟩ := ok__law_draw (w := w) (base := base) T
  obtain ⟨fd, F⟩ := T.def_ 25 rfl
  have nd := sc__law_row.nd
  refine fk_mk T.toTx (x := "_law_row") (T.glo 30 rfl) F (fun _ _ _ _ _ _ us hl => match us, hl with | [_, _, _, _], _ => rfl) (F.ok sc__law_row (fun vs H Q E h => ?_) (fun cdv A outer s H vs Q E hr h => ?_))
  · obtain ⟨G, ⟨l, ⟨names_here0, size0, start0, ⟨⟩⟩⟩, pot_here0, r, k', ⟨_, _, rfl, rfl, ⟨vnames_here0, _, rfl, hnames_here0, vsize0, _, rfl, hsize0, vstart0, _, rfl, hstart0, rfl⟩⟩, wd, h, k⟩ := h
    rfl
  · obtain ⟨G, ⟨l, ⟨names_here0, size0, start0, ⟨⟩⟩⟩, pot_here0, r, k', ⟨_, _, rfl, rfl, ⟨vnames_here0, _, rfl, hnames_here0, vsize0, _, rfl, hsize0, vstart0, _, rfl, hstart0, rfl⟩⟩, wd, h, k⟩ := h
    cases hsize0
    have e0 : Evl.Ex G H := wd.ex
    have w0 : Wo G H [l] G H _ := Wo.startC wd
    have h : m__law_row pot_here0 names_here0 size0 start0 = some (r, k') := h
    unfold m__law_row at h
    refine ⟨_, PSs.nox (pss_cons (ps_set (i := 4) nd rfl (Or.inr rfl) (pe_lc (own := [("_law_pair", 9)]) (by rfl) nd (show L2.PI _ _ _ (iList K _) from pi_list (pv 3)) (blkOk_by (by kernel_rfl)) (fun _ _ _ _ _ => pg_name (i := 9) nd rfl (by first | exact Or.inl rfl | exact Or.inr rfl)) (fun _ _ _ _ _ => pts_nil) (fun _ _ _ _ _ => (pe_ix (r := rIxT K) ix_tup (pv 9) pe_int (fun _ _ => rfl))))) (pss_cons (ps_setLc (i := 5) (own := [("_law_name", 8)]) (by rfl) nd rfl rfl (sw_true rfl rfl rfl (by decide +kernel)) (show L2.PI _ _ _ (iList K _) from pi_list (pv 1)) (blkOk_by (by kernel_rfl)) (fun _ _ _ _ _ => pg_name (i := 8) nd rfl (by first | exact Or.inl rfl | exact Or.inr rfl)) (fun _ _ _ _ _ => pts_one (pt_cmpR (r := rIn K true) op_notIn_seq (pv 8) (pv 4) (by rfl))) (fun _ _ _ _ _ => (pv 8))) (pss_cons (ps_set (i := 6) nd rfl (Or.inl rfl) (pe_callTy (r := rLs K) call_list_of (by rfl) (fr_list T) (by decide +kernel) (pa_cons (pv 3) pa_nil))) (pss_cons (ps_for PassesOwn.never rfl (pi_range1 (by rfl) (fr_range T) (pa_cons (pe_call G__law_draw (hr.mono (by decide)) rfl g__law_draw k__law_draw b__law_draw .nil pass0 (pa_cons (pv 0) (pa_cons (pe_op op_add pe_int (pe_callB (r := rLn K) call_len_seq (by rfl) (fr_len T) (by decide +kernel) (pa_cons (pv 5) pa_nil))) pa_nil))) pa_nil)) (pg_name (i := 7) nd rfl (Or.inl rfl)) (pss_cons (ps_set (i := 8) nd rfl (Or.inl rfl) (pe_bm PySem.F.plainAttrs_list PySem.F.slot_list_pop PySem.F.type_list_pop mt_popAt (pv 5) (pa_cons (pe_call G__law_draw (hr.mono (by decide)) rfl g__law_draw k__law_draw b__law_draw .nil pass0 (pa_cons (pv 0) (pa_cons (pe_callB (r := rLn K) call_len_seq (by rfl) (fr_len T) (by decide +kernel) (pa_cons (pv 5) pa_nil)) pa_nil))) pa_nil))) (pss_cons (ps_expr (pe_bm PySem.F.plainAttrs_list PySem.F.slot_list_append PySem.F.type_list_append mt_append (pv 6) (pa_cons (pe_tup (pa_cons (pv 8) (pa_cons (pe_call G__law_draw (hr.mono (by decide)) rfl g__law_draw k__law_draw b__law_draw .nil pass0 (pa_cons (pv 0) (pa_cons (pv 2) pa_nil))) pa_nil))) pa_nil))) pss_nil))) (pss_cons (ps_ret (pv 6)) pss_nil))))), ?_⟩
    obtain ⟨used_1940, hx1941, h⟩ := bindS h
    refine x_set w0 (EL.e (el_map (el_lcL (j := 9) (e_var (R := (rL (rP rS rI))) (x := start0) rfl hstart0) (fun _ => rfl) (fun _ _ _ _ _ _ _ _ => et_yes) (fun x1934 v1937 G1935 W1936 eG1931 eW1932 eX1933 h1938 => (e_fst (e_var (R := (rP rS rI)) (x := x1934) rfl h1938)))))) hx1941 ?_
    intro v1944 H1942 G1945 w1943 e1946 h1947
    have h1948 := Rep.mono _ e1946 hnames_here0
    have h1949 := Rep.mono _ e1946 hstart0
    obtain ⟨rest_1959, hx1960, h⟩ := bindS h
    refine x_setL w1943 (el_lcL (j := 8) (e_var (R := (rL rS)) (x := names_here0) rfl h1948) (fun _ => rfl) (fun x1953 v1956 G1954 W1955 eG1950 eW1951 eX1952 h1957 => (et_T (e_op (rr_ninL flS) (e_var (R := rS) (x := x1953) rfl (Rep.mono _ eX1952 h1957)) (e_var (R := (rL rS)) (x := used_1940) rfl (Rep.mono _ eX1952 (Rep.mono _ eG1950 h1947)))))) (fun x1953 v1956 G1954 W1955 eG1950 eW1951 eX1952 h1957 => (e_var (R := rS) (x := x1953) rfl h1957))) hx1960 ?_
    intro p1963 H1961 G1964 n1965 w1962 e1966
    have h1967 := Rep.mono _ e1966 h1948
    have h1968 := Rep.mono _ e1966 h1949
    have h1969 := Rep.mono _ e1966 h1947
    obtain ⟨asks_1970, hx1971, h⟩ := bindS h
    refine x_setL w1962 (el_cb rc_listL (ea_cons (e_var (R := (rL (rP rS rI))) (x := start0) rfl h1968) ea_nil)) hx1971 ?_
    intro p1974 H1972 G1975 n1976 w1973 e1977
    have h1978 := Rep.mono _ e1977 h1967
    have h1979 := Rep.mono _ e1977 h1968
    have h1980 := Rep.mono _ e1977 h1969
    refine o_forR ?_
    refine o_cons ?_
    refine o_call ?_
    refine o_cons ?_
    refine o_var rfl ?_
    refine o_cons ?_
    obtain ⟨x1981, hx1982, h⟩ := bindS h
    refine c_i w1973 (Sim.E.s scI (e_op rr_add e_int (e_cb rc_lenL (ea_cons (e_var (R := (rL rS)) (x := rest_1959) rfl (w1973.rlAt (i := 1) rfl)) ea_nil)))) hx1982 ?_
    intro H1983 w1984
    refine o_nil ?_
    obtain ⟨x1986, hx1987, h⟩ := bindS h
    refine c_p1 (i := 2) (j := (x1981, ())) w1984 rfl ⟨_, _, rfl, rfl, rfl⟩ hx1987 ?_
    intro u1988 H1989 G1990 w1991 e1992 r1993
    have h1994 := Rep.mono _ e1992 h1978
    have h1995 := Rep.mono _ e1992 h1979
    have h1996 := Rep.mono _ e1992 h1980
    cases r1993
    have w1991 : Wo G H [l] G1990 H1989 [(p1974, cL (rP rS rI) asks_1970), (p1963, cL rS rest_1959), (l, cL rI x1986.2)] := w1991
    refine o_nil ?_
    obtain ⟨xs1998, hx1999, h⟩ := bindS h
    obtain ⟨t2001, hx2002, h⟩ := bindS h
    refine v_forR w1991 hx1999 (fun i G' H' σ' => ∃ s2003 : ((List (Str × Int)) × ((List Int) × (List Str))), ∃ u2004 : Option V, ∃ u2005 : Option V, Wo G H [l] G' H' [(p1974, cL (rP rS rI) s2003.1), (p1963, cL rS s2003.2.2), (l, cL rI s2003.2.1)] ∧ Evl.Ex G1990 G' ∧ σ' = [some (V.ref l), some vnames_here0, some (V.int size0), some vstart0, some v1944, some (V.ref p1963), some (V.ref p1974), u2004, u2005, none] ∧ forS (m__law_row_b1 size0) (xs1998.drop i) s2003 = some t2001) ?_ ?_ ?_
    · exact ⟨(asks_1970, (x1986.2, rest_1959)), (none), (none), w1991, (Evl.Ex.refl _), rfl, hx2002⟩
    · rintro i2013 x2014 σ' G2009 H2012 hx2015 ⟨s2003, u2004, u2005, w2010, e2011, rfl, hm2007⟩
      obtain ⟨q2008, hb2006, hm2007⟩ := forS_at hx2015 hm2007
      have h2016 := Rep.mono _ e2011 h1994
      have h2017 := Rep.mono _ e2011 h1995
      have h2018 := Rep.mono _ e2011 h1996
      refine g_name ?_
      unfold m__law_row_b1 at hb2006
      refine x_setO ?_
      refine o_bm (j := 1) w2010 rfl rfl ?_
      refine o_cons ?_
      refine o_call ?_
      refine o_cons ?_
      refine o_var rfl ?_
      refine o_cons ?_
      obtain ⟨x2019, hx2020, hb2006⟩ := bindS hb2006
      refine c_i w2010 (Sim.E.s scI (e_cb rc_lenL (ea_cons (e_var (R := (rL rS)) (x := s2003.2.2) rfl (w2010.rlAt (i := 1) rfl)) ea_nil))) hx2020 ?_
      intro H2021 w2022
      refine o_nil ?_
      obtain ⟨x2024, hx2025, hb2006⟩ := bindS hb2006
      refine c_p1 (i := 2) (j := (x2019, ())) w2022 rfl ⟨_, _, rfl, rfl, rfl⟩ hx2025 ?_
      intro u2026 H2027 G2028 w2029 e2030 r2031
      have h2032 := Rep.mono _ e2030 h2016
      have h2033 := Rep.mono _ e2030 h2017
      have h2034 := Rep.mono _ e2030 h2018
      cases r2031
      have w2029 : Wo G H [l] G2028 H2027 [(p1974, cL (rP rS rI) s2003.1), (p1963, cL rS s2003.2.2), (l, cL rI x2024.2)] := w2029
      refine o_nil ?_
      obtain ⟨x2036, hx2037, hb2006⟩ := bindS hb2006
      refine c_popAt (j := 1) w2029 rfl hx2037 ?_
      intro v2038 H2039 w2040 r2041
      cases r2041
      have w2040 : Wo G H [l] G2028 H2039 [(p1974, cL (rP rS rI) s2003.1), (p1963, cL rS x2036.2), (l, cL rI x2024.2)] := w2040
      refine x_drop ?_
      refine o_bm (j := 0) w2040 rfl rfl ?_
      refine o_cons ?_
      refine o_tup ?_
      refine o_cons ?_
      obtain ⟨x2042, hx2043, hb2006⟩ := bindS hb2006
      refine c_s w2040 (e_var (R := rS) (x := x2036.1) rfl rfl) hx2043 ?_
      intro H2044 w2045
      refine o_cons ?_
      refine o_call ?_
      refine o_cons ?_
      refine o_var rfl ?_
      refine o_cons ?_
      obtain ⟨x2047, hx2048, hb2006⟩ := bindS hb2006
      refine c_i w2045 (e_var (R := rI) (x := size0) rfl rfl) hx2048 ?_
      intro H2049 w2050
      refine o_nil ?_
      obtain ⟨x2052, hx2053, hb2006⟩ := bindS hb2006
      refine c_p1 (i := 2) (j := (x2047, ())) w2050 rfl ⟨_, _, rfl, rfl, rfl⟩ hx2053 ?_
      intro u2054 H2055 G2056 w2057 e2058 r2059
      have h2060 := Rep.mono _ e2058 h2032
      have h2061 := Rep.mono _ e2058 h2033
      have h2062 := Rep.mono _ e2058 h2034
      cases r2059
      have w2057 : Wo G H [l] G2056 H2055 [(p1974, cL (rP rS rI) s2003.1), (p1963, cL rS x2036.2), (l, cL rI x2052.2)] := w2057
      refine o_nil ?_
      refine c_pairO (R := rS) (S := rI) (x := x2042) (y := x2052.1) w2057 rfl rfl ?_
      intro v2064 H2069 G2065 w2066 e2067 h2068
      have h2070 := Rep.mono _ e2067 h2060
      have h2071 := Rep.mono _ e2067 h2061
      have h2072 := Rep.mono _ e2067 h2062
      refine o_nil ?_
      obtain ⟨asks_2074, hx2075, hb2006⟩ := bindS hb2006
      obtain ⟨hs2078, q2079⟩ := appM_ok hx2075
      subst q2079
      refine c_app (j := 0) w2066 rfl hs2078 h2068 ?_
      intro H2076 w2077
      have w2077 : Wo G H [l] G2065 H2076 [(p1974, cL (rP rS rI) (s2003.1 ++ [(x2042, x2052.1)])), (p1963, cL rS x2036.2), (l, cL rI x2052.2)] := w2077
      refine x_next ?_
      have hb2006 : ((s2003.1 ++ [(x2042, x2052.1)]), (x2052.2, x2036.2)) = q2008 := Option.some.inj hb2006
      subst hb2006
      exact ⟨G2065, ((s2003.1 ++ [(x2042, x2052.1)]), (x2052.2, x2036.2)), (some (V.int x2014)), (some (V.str x2036.1)), w2077, (((e2011.trans e2030).trans e2058).trans e2067), rfl, hm2007⟩
    · rintro σ' G2080 H2083 ⟨s2003, u2004, u2005, w2081, e2082, rfl, hm2007⟩
      have hm2007 := forS_end hm2007
      subst hm2007
      have h2085 := Rep.mono _ e2082 h1994
      have h2086 := Rep.mono _ e2082 h1995
      have h2087 := Rep.mono _ e2082 h1996
      obtain ⟨h8, h9⟩ : s2003.1 = r ∧ s2003.2.1 = k' := Prod.mk.inj (Option.some.inj h)
      subst h8
      subst h9
      refine x_retO (o_var rfl ?_)
      exact k _ _ _ n1976 w2081.f (w2081.sub2 (i := 0) (j := 2) rfl rfl (by decide))
def m__law_second (pot_here0 : (List Int)) (names_here0 : (List Str)) (size0 : Int) (first0 : (List (Str × Int))) : Option ((List (Str × Int)) × (List Int)) :=
  (some ((first0.length : Int) + (1 : Int)) >>= fun x2088 => (m__law_draw pot_here0 x2088 >>= fun x2093 => (some (cutM first0 none (some x2093.1)) >>= fun start_2103 => (some (4 : Int) >>= fun x2113 => (m__law_draw x2093.2 x2113 >>= fun x2118 => (some (x2118.1 == (0 : Int)) >>= fun b2129 => bif b2129 then (some start_2103 >>= fun a2133 => some (a2133, x2118.2)) else ((some ((x2118.1 == (2 : Int)) && (decide (x2093.1 < (first0.length : Int)))) >>= fun b2137 => bif b2137 then (some start_2103 >>= fun x2219 => ((atI first0 x2093.1 >>= fun t2231 => some t2231.1) >>= fun x2232 => (some size0 >>= fun x2237 => (m__law_draw x2118.2 x2237 >>= fun x2242 => (catM x2219 ([(x2232, x2242.1)] : (List (Str × Int))) >>= fun x2277 => some (x2242.2, x2277)))))) else some (x2118.2, start_2103)) >>= fun s2209 => ((some (x2118.1 == (3 : Int)) >>= fun b2296 => bif b2296 then (some ([]) >>= fun start_2318 => some start_2318) else some s2209.2) >>= fun s2308 => (some names_here0 >>= fun x2335 => (some size0 >>= fun x2347 => (some s2308 >>= fun x2352 => (m__law_row s2209.1 x2335 x2347 x2352 >>= fun x2365 => some (x2365.1, x2365.2)))))))))))))
theorem sc__law_second : FnScope ["_law_pot_here", "_law_names_here", "_law_size", "_law_first", "_law_place", "_law_start", "_law_kind"] ["_law_pot_here", "_law_names_here", "_law_size", "_law_first"] (defScope s__law_second) := ⟨rfl, rfl, rfl, by decide +kernel, rfl, by decide +kernel, by decide +kernel⟩
theorem ok__law_second (T : Tx K mg) : Fk P w K mg base CX0 3 "_law_second" ["_law_pot_here", "_law_names_here", "_law_size", "_law_first"] (P1L (aC (rL rS) (aC rI (aC (rL (rP rS rI)) aN))) rI (rP rS rI) (fun ys i => m__law_second ys i.1 i.2.1 i.2.2.1)) := by
  obtain ⟨fd__law_draw, G__law_draw, b__law_draw, k__law_draw, g__law_draw⟩ := ok__law_draw (w := w) (base := base) T
  obtain ⟨fd__law_row, G__law_row, b__law_row, k__law_row, g__law_row⟩ := ok__law_row (w := w) (base := base) T
  obtain ⟨fd, F⟩ := T.def_ 26 rfl
  have nd := sc__law_second.nd
  refine fk_mk T.toTx (x := "_law_second") (T.glo 31 rfl) F (fun _ _ _ _ _ _ us hl => match us, hl with | [_, _, _, _], _ => rfl) (F.ok sc__law_second (fun vs H Q E h => ?_) (fun cdv A outer s H vs Q E hr h => ?_))
  · obtain ⟨G, ⟨l, ⟨names_here0, size0, first0, ⟨⟩⟩⟩, pot_here0, r, k', ⟨_, _, rfl, rfl, ⟨vnames_here0, _, rfl, hnames_here0, vsize0, _, rfl, hsize0, vfirst0, _, rfl, hfirst0, rfl⟩⟩, wd, h, k⟩ := h
    rfl
  · obtain ⟨G, ⟨l, ⟨names_here0, size0, first0, ⟨⟩⟩⟩, pot_here0, r, k', ⟨_, _, rfl, rfl, ⟨vnames_here0, _, rfl, hnames_here0, vsize0, _, rfl, hsize0, vfirst0, _, rfl, hfirst0, rfl⟩⟩, wd, h, k⟩ := h
    cases hsize0
    have e0 : Evl.Ex G H := wd.ex
    have w0 : Wo G H [l] G H _ := Wo.startC wd
    have h : m__law_second pot_here0 names_here0 size0 first0 = some (r, k') := h
    unfold m__law_second at h
    refine ⟨_, PSs.nox (pss_cons (ps_set (i := 4) nd rfl (Or.inl rfl) (pe_call G__law_draw (hr.mono (by decide)) rfl g__law_draw k__law_draw b__law_draw .nil pass0 (pa_cons (pv 0) (pa_cons (pe_op op_add (pe_callB (r := rLn K) call_len_seq (by rfl) (fr_len T) (by decide +kernel) (pa_cons (pv 3) pa_nil)) pe_int) pa_nil)))) (pss_cons (ps_set (i := 5) nd rfl (Or.inl rfl) (pe_slice (r := rSlL K) sl_list (pv 3) po_none (po_some (pv 4)))) (pss_cons (ps_set (i := 6) nd rfl (Or.inl rfl) (pe_call G__law_draw (hr.mono (by decide)) rfl g__law_draw k__law_draw b__law_draw .nil pass0 (pa_cons (pv 0) (pa_cons pe_int pa_nil)))) (pss_cons (ps_if (pt_cmpR op_eq (pv 6) pe_int (nomark _)) (pss_cons (ps_ret (pe_callTy (r := rLs K) call_list_of (by rfl) (fr_list T) (by decide +kernel) (pa_cons (pv 5) pa_nil))) pss_nil) pss_nil) (Evl.pss_cut (ps_if (PW.pt (pw_and (pt_cmpR op_eq (pv 6) pe_int (nomark _)) (pw_and1 (pt_cmpR op_lt (pv 4) (pe_callB (r := rLn K) call_len_seq (by rfl) (fr_len T) (by decide +kernel) (pa_cons (pv 3) pa_nil)) (nomark _))))) (pss_cons (ps_set (i := 5) nd rfl (Or.inl rfl) (pe_op op_cat (pv 5) (pe_lst (pa_cons (pe_tup (pa_cons (pe_ix (r := rIxT K) ix_tup (pe_ix (r := rIxL K) ix_list (pv 3) (pv 4) (fun _ _ => rfl)) pe_int (fun _ _ => rfl)) (pa_cons (pe_call G__law_draw (hr.mono (by decide)) rfl g__law_draw k__law_draw b__law_draw .nil pass0 (pa_cons (pv 0) (pa_cons (pv 2) pa_nil))) pa_nil))) pa_nil)))) pss_nil) pss_nil) (Evl.pss_cut (ps_if (pt_cmpR op_eq (pv 6) pe_int (nomark _)) (pss_cons (ps_set (i := 5) nd rfl (Or.inl rfl) (pe_lst pa_nil)) pss_nil) pss_nil) (pss_cons (ps_ret (pe_call G__law_row (hr.mono (by decide)) rfl g__law_row k__law_row b__law_row .nil pass0 (pa_cons (pv 0) (pa_cons (pv 1) (pa_cons (pv 2) (pa_cons (pv 5) pa_nil)))))) pss_nil))))))), ?_⟩
    refine x_setO ?_
    refine o_call ?_
    refine o_cons ?_
    refine o_var rfl ?_
    refine o_cons ?_
    obtain ⟨x2088, hx2089, h⟩ := bindS h
    refine c_i w0 (e_op rr_add (e_cb rc_lenL (ea_cons (e_var (R := (rL (rP rS rI))) (x := first0) rfl hfirst0) ea_nil)) e_int) hx2089 ?_
    intro H2090 w2091
    refine o_nil ?_
    obtain ⟨x2093, hx2094, h⟩ := bindS h
    refine c_p1 (i := 0) (j := (x2088, ())) w2091 rfl ⟨_, _, rfl, rfl, rfl⟩ hx2094 ?_
    intro u2095 H2096 G2097 w2098 e2099 r2100
    have h2101 := Rep.mono _ e2099 hnames_here0
    have h2102 := Rep.mono _ e2099 hfirst0
    cases r2100
    have w2098 : Wo G H [l] G2097 H2096 [(l, cL rI x2093.2)] := w2098
    obtain ⟨start_2103, hx2104, h⟩ := bindS h
    refine x_set w2098 (EL.e (el_slice (e_var (R := (rL (rP rS rI))) (x := first0) rfl h2102) eo_no (eo_at (e_var (R := rI) (x := x2093.1) rfl rfl)))) hx2104 ?_
    intro v2107 H2105 G2108 w2106 e2109 h2110
    have h2111 := Rep.mono _ e2109 h2101
    have h2112 := Rep.mono _ e2109 h2102
    refine x_setO ?_
    refine o_call ?_
    refine o_cons ?_
    refine o_var rfl ?_
    refine o_cons ?_
    obtain ⟨x2113, hx2114, h⟩ := bindS h
    refine c_i w2106 e_int hx2114 ?_
    intro H2115 w2116
    refine o_nil ?_
    obtain ⟨x2118, hx2119, h⟩ := bindS h
    refine c_p1 (i := 0) (j := (x2113, ())) w2116 rfl ⟨_, _, rfl, rfl, rfl⟩ hx2119 ?_
    intro u2120 H2121 G2122 w2123 e2124 r2125
    have h2126 := Rep.mono _ e2124 h2111
    have h2127 := Rep.mono _ e2124 h2112
    have h2128 := Rep.mono _ e2124 h2110
    cases r2125
    have w2123 : Wo G H [l] G2122 H2121 [(l, cL rI x2118.2)] := w2123
    obtain ⟨b2129, hx2130, h⟩ := bindS h
    refine x_if w2123 (et_T (e_op rr_eqI (e_var (R := rI) (x := x2118.1) rfl rfl) e_int)) hx2130 ?_ ?_
    · intro hbb2129 H2131 w2132
      subst hbb2129
      have h := bifT h
      obtain ⟨a2133, hx2134, h⟩ := bindS h
      obtain ⟨h8, h9⟩ : a2133 = r ∧ x2118.2 = k' := Prod.mk.inj (Option.some.inj h)
      subst h8
      subst h9
      refine x_retL w2132 (el_cb rc_listL (ea_cons (e_var (R := (rL (rP rS rI))) (x := start_2103) rfl h2128) ea_nil)) hx2134 (fun p9 H9 G9 n9 w9 e9 => ?_)
      exact k _ _ _ n9 w9.f (w9.sub2 (i := 0) (j := 1) rfl rfl (by decide))
    · intro hbb2129 H2135 w2136
      subst hbb2129
      have h := bifF h
      refine x_next ?_
      obtain ⟨s2209, hx2210, h⟩ := bindS h
      refine o_cut (fun σ' H' => ∃ v2211 : V, ∃ G' : Hp, Wo G H [l] G' H' [(l, cL rI s2209.1)] ∧ Evl.Ex G2122 G' ∧ σ' = [some (V.ref l), some vnames_here0, some (V.int size0), some vfirst0, some (V.int x2093.1), some v2211, some (V.int x2118.1)] ∧ (rL (rP rS rI)).r G' v2211 s2209.2) ?_ ?_
      · obtain ⟨b2137, hx2216, hx2210⟩ := bindS hx2210
        refine x_if w2136 (et_andP (et_T (e_op rr_eqI (e_var (R := rI) (x := x2118.1) rfl rfl) e_int)) (et_T (e_op rr_lt (e_var (R := rI) (x := x2093.1) rfl rfl) (e_cb rc_lenL (ea_cons (e_var (R := (rL (rP rS rI))) (x := first0) rfl (Rep.mono _ w2136.ex h2127)) ea_nil))))) hx2216 ?_ ?_
        · intro hbb2137 H2217 w2218
          subst hbb2137
          have hx2210 := bifT hx2210
          refine x_setO ?_
          refine o_op ?_
          obtain ⟨x2219, hx2220, hx2210⟩ := bindS hx2210
          refine c_e w2218 (e_var (R := (rL (rP rS rI))) (x := start_2103) rfl h2128) hx2220 ?_
          intro v2223 H2221 G2224 w2222 e2225 h2226
          have h2227 := Rep.mono _ e2225 h2126
          have h2228 := Rep.mono _ e2225 h2127
          have h2229 := Rep.mono _ e2225 h2128
          refine o_lst ?_
          refine o_cons ?_
          refine o_tup ?_
          refine o_cons ?_
          obtain ⟨x2232, hx2233, hx2210⟩ := bindS hx2210
          refine c_s w2222 (e_fst (e_op rr_ixL (e_var (R := (rL (rP rS rI))) (x := first0) rfl h2228) (e_var (R := rI) (x := x2093.1) rfl rfl))) (by first | (simp only [be1, bs1, ba1] at hx2233 ⊢; exact hx2233) | exact hx2233) ?_
          intro H2234 w2235
          refine o_cons ?_
          refine o_call ?_
          refine o_cons ?_
          refine o_var rfl ?_
          refine o_cons ?_
          obtain ⟨x2237, hx2238, hx2210⟩ := bindS hx2210
          refine c_i w2235 (e_var (R := rI) (x := size0) rfl rfl) hx2238 ?_
          intro H2239 w2240
          refine o_nil ?_
          obtain ⟨x2242, hx2243, hx2210⟩ := bindS hx2210
          refine c_p1 (i := 0) (j := (x2237, ())) w2240 rfl ⟨_, _, rfl, rfl, rfl⟩ hx2243 ?_
          intro u2244 H2245 G2246 w2247 e2248 r2249
          have h2250 := Rep.mono _ e2248 h2227
          have h2251 := Rep.mono _ e2248 h2228
          have h2252 := Rep.mono _ e2248 h2229
          have h2253 := Rep.mono _ e2248 h2226
          cases r2249
          have w2247 : Wo G H [l] G2246 H2245 [(l, cL rI x2242.2)] := w2247
          refine o_nil ?_
          refine c_pairO (R := rS) (S := rI) (x := x2232) (y := x2242.1) w2247 rfl rfl ?_
          intro v2255 H2260 G2256 w2257 e2258 h2259
          have h2261 := Rep.mono _ e2258 h2250
          have h2262 := Rep.mono _ e2258 h2251
          have h2263 := Rep.mono _ e2258 h2252
          have h2264 := Rep.mono _ e2258 h2253
          refine o_nil ?_
          refine c_lstN (R := (rP rS rI)) (xs := [(x2232, x2242.1)]) w2257 (.cons h2259 .nil) (show 1 < 100000 by decide) ?_
          intro v2266 H2271 G2267 w2268 e2269 h2270
          have h2272 := Rep.mono _ e2269 h2261
          have h2273 := Rep.mono _ e2269 h2262
          have h2274 := Rep.mono _ e2269 h2263
          have h2275 := Rep.mono _ e2269 h2264
          have h2276 := Rep.mono _ e2269 h2259
          obtain ⟨x2277, hx2278, hx2210⟩ := bindS hx2210
          refine c_opL rrl_cat w2268 h2275 h2270 hx2278 ?_
          intro v2279 H2284 G2280 w2281 e2282 h2283
          have h2285 := Rep.mono _ e2282 h2272
          have h2286 := Rep.mono _ e2282 h2273
          have h2287 := Rep.mono _ e2282 h2274
          have h2288 := Rep.mono _ e2282 h2275
          have h2289 := Rep.mono _ e2282 h2276
          refine x_next ?_
          have hx2210 : (x2242.2, x2277) = s2209 := Option.some.inj hx2210
          subst hx2210
          exact ⟨v2279, G2280, w2281, ((((e2225.trans e2248).trans e2258).trans e2269).trans e2282), rfl, h2283⟩
        · intro hbb2137 H2290 w2291
          subst hbb2137
          have hx2210 := bifF hx2210
          refine x_next ?_
          have hx2210 : (x2118.2, start_2103) = s2209 := Option.some.inj hx2210
          subst hx2210
          exact ⟨v2107, G2122, w2291, (Evl.Ex.refl _), rfl, h2128⟩
      · rintro σ' H2295 ⟨v2211, G2292, w2214, e2213, rfl, h2212⟩
        have h2293 := Rep.mono _ e2213 h2126
        have h2294 := Rep.mono _ e2213 h2127
        obtain ⟨s2308, hx2309, h⟩ := bindS h
        refine o_cut (fun σ' H' => ∃ v2310 : V, ∃ G' : Hp, Wo G H [l] G' H' [(l, cL rI s2209.1)] ∧ Evl.Ex G2292 G' ∧ σ' = [some (V.ref l), some vnames_here0, some (V.int size0), some vfirst0, some (V.int x2093.1), some v2310, some (V.int x2118.1)] ∧ (rL (rP rS rI)).r G' v2310 s2308) ?_ ?_
        · obtain ⟨b2296, hx2315, hx2309⟩ := bindS hx2309
          refine x_if w2214 (et_T (e_op rr_eqI (e_var (R := rI) (x := x2118.1) rfl rfl) e_int)) hx2315 ?_ ?_
          · intro hbb2296 H2316 w2317
            subst hbb2296
            have hx2309 := bifT hx2309
            obtain ⟨start_2318, hx2319, hx2309⟩ := bindS hx2309
            refine x_set w2317 (EL.e (el_disp (R := (rP rS rI)) eal_nil)) hx2319 ?_
            intro v2322 H2320 G2323 w2321 e2324 h2325
            have h2326 := Rep.mono _ e2324 h2293
            have h2327 := Rep.mono _ e2324 h2294
            have h2328 := Rep.mono _ e2324 h2212
            refine x_next ?_
            have hx2309 : start_2318 = s2308 := Option.some.inj hx2309
            subst hx2309
            exact ⟨v2322, G2323, w2321, e2324, rfl, h2325⟩
          · intro hbb2296 H2329 w2330
            subst hbb2296
            have hx2309 := bifF hx2309
            refine x_next ?_
            have hx2309 : s2209.2 = s2308 := Option.some.inj hx2309
            subst hx2309
            exact ⟨v2211, G2292, w2330, (Evl.Ex.refl _), rfl, h2212⟩
        · rintro σ' H2334 ⟨v2310, G2331, w2313, e2312, rfl, h2311⟩
          have h2332 := Rep.mono _ e2312 h2293
          have h2333 := Rep.mono _ e2312 h2294
          refine x_retO ?_
          refine o_call ?_
          refine o_cons ?_
          refine o_var rfl ?_
          refine o_cons ?_
          obtain ⟨x2335, hx2336, h⟩ := bindS h
          refine c_e w2313 (e_var (R := (rL rS)) (x := names_here0) rfl h2332) hx2336 ?_
          intro v2339 H2337 G2340 w2338 e2341 h2342
          have h2343 := Rep.mono _ e2341 h2332
          have h2344 := Rep.mono _ e2341 h2333
          have h2345 := Rep.mono _ e2341 h2311
          refine o_cons ?_
          obtain ⟨x2347, hx2348, h⟩ := bindS h
          refine c_i w2338 (e_var (R := rI) (x := size0) rfl rfl) hx2348 ?_
          intro H2349 w2350
          refine o_cons ?_
          obtain ⟨x2352, hx2353, h⟩ := bindS h
          refine c_e w2350 (e_var (R := (rL (rP rS rI))) (x := s2308) rfl h2345) hx2353 ?_
          intro v2356 H2354 G2357 w2355 e2358 h2359
          have h2360 := Rep.mono _ e2358 h2343
          have h2361 := Rep.mono _ e2358 h2344
          have h2362 := Rep.mono _ e2358 h2345
          have h2363 := Rep.mono _ e2358 h2342
          refine o_nil ?_
          obtain ⟨x2365, hx2366, h⟩ := bindS h
          refine c_p1l (i := 0) (j := (x2335, x2347, x2352, ())) w2355 rfl ⟨_, _, rfl, h2363, _, _, rfl, rfl, _, _, rfl, h2359, rfl⟩ hx2366 ?_
          intro p2369 H2367 G2370 n2371 w2368 e2372
          have h2373 := Rep.mono _ e2372 h2360
          have h2374 := Rep.mono _ e2372 h2361
          have h2375 := Rep.mono _ e2372 h2362
          have h2376 := Rep.mono _ e2372 h2363
          have h2377 := Rep.mono _ e2372 h2359
          have w2368 : Wo G H [l] G2370 H2367 [(p2369, cL (rP rS rI) x2365.1), (l, cL rI x2365.2)] := w2368
          obtain ⟨h8, h9⟩ : x2365.1 = r ∧ x2365.2 = k' := Prod.mk.inj (Option.some.inj h)
          subst h8
          subst h9
          exact k _ _ _ n2371 w2368.f (w2368.sub2 (i := 0) (j := 1) rfl rfl (by decide))
def m__law_falls_b2 (x2396 : (Str × Int)) (masks_here0 : (List Int)) (x2426 : (Str × Int)) (s2415 : Unit) : Option (Stp Unit Bool) :=
  ((andO (some (decide (x2396.1 = x2426.1))) ((m__law_under masks_here0 x2396.2 x2426.2 >>= fun t2440 => some (!t2440)))) >>= fun b2441 => bif b2441 then (some false >>= fun a2445 => some (Stp.rt a2445)) else some (Stp.nx ()))
def m__law_falls_b1 (two0 : ((List (Str × Int)) × Int)) (masks_here0 : (List Int)) (x2396 : (Str × Int)) (s2383 : Unit) : Option (Stp Unit Bool) :=
  (some two0.1 >>= fun xs2410 => forL (m__law_falls_b2 x2396 masks_here0) xs2410 () >>= Sum.elim (fun s2415 => some (Stp.nx ())) (fun r => some (Stp.rt r)))
def m__law_falls (masks_here0 : (List Int)) (one0 : ((List (Str × Int)) × Int)) (two0 : ((List (Str × Int)) × Int)) : Option Bool :=
  (some one0.1 >>= fun xs2378 => forL (m__law_falls_b1 two0 masks_here0) xs2378 () >>= Sum.elim (fun s2383 => ((m__law_under masks_here0 one0.2 two0.2 >>= fun t2467 => some (!t2467)) >>= fun a2468 => some a2468)) (fun r => some r))
theorem sc__law_falls : FnScope ["_law_masks_here", "_law_one", "_law_two", "_law_name", "_law_answer", "_law_other", "_law_value"] ["_law_masks_here", "_law_one", "_law_two"] (defScope s__law_falls) := ⟨rfl, rfl, rfl, by decide +kernel, rfl, by decide +kernel, by decide +kernel⟩
theorem ok__law_falls (T : Tx K mg) : Fk P w K mg base CX0 2 "_law_falls" ["_law_masks_here", "_law_one", "_law_two"] (PF (aC (rL rI) (aC (rP (rL (rP rS rI)) rI) (aC (rP (rL (rP rS rI)) rI) aN))) rB (fun i => m__law_falls i.1 i.2.1 i.2.2.1)) := by
  obtain ⟨fd__law_under, G__law_under, b__law_under, k__law_under, g__law_under⟩ := ok__law_under (w := w) (base := base) T
  obtain ⟨fd, F⟩ := T.def_ 27 rfl
  have nd := sc__law_falls.nd
  refine fk_mk T.toTx (x := "_law_falls") (T.glo 32 rfl) F (fun _ _ _ _ _ _ us hl => match us, hl with | [_, _, _], _ => rfl) (F.ok sc__law_falls (fun vs H Q E h => ?_) (fun cdv A outer s H vs Q E hr h => ?_))
  · obtain ⟨G, ⟨masks_here0, one0, two0, ⟨⟩⟩, r, e0, ⟨vmasks_here0, _, rfl, hmasks_here0, vone0, _, rfl, hone0, vtwo0, _, rfl, htwo0, rfl⟩, h, k⟩ := h
    rfl
  · obtain ⟨G, ⟨masks_here0, one0, two0, ⟨⟩⟩, r, e0, ⟨vmasks_here0, _, rfl, hmasks_here0, vone0, _, rfl, hone0, vtwo0, _, rfl, htwo0, rfl⟩, h, k⟩ := h
    have w0 := Wo.start e0
    have h : m__law_falls masks_here0 one0 two0 = some r := h
    unfold m__law_falls at h
    refine ⟨_, PSs.nox (pss_cons (ps_for PassesOwn.never rfl (pi_list (pe_ix (r := rIxT K) ix_tup (pv 1) pe_int (fun _ _ => rfl))) (pg_tup (by rfl) (pgs_cons (pg_name (i := 3) nd rfl (by first | exact Or.inl rfl | exact Or.inr rfl)) (pgs_cons (pg_name (i := 4) nd rfl (by first | exact Or.inl rfl | exact Or.inr rfl)) pgs_nil))) (pss_cons (ps_for PassesOwn.never rfl (pi_list (pe_ix (r := rIxT K) ix_tup (pv 2) pe_int (fun _ _ => rfl))) (pg_tup (by rfl) (pgs_cons (pg_name (i := 5) nd rfl (by first | exact Or.inl rfl | exact Or.inr rfl)) (pgs_cons (pg_name (i := 6) nd rfl (by first | exact Or.inl rfl | exact Or.inr rfl)) pgs_nil))) (pss_cons (ps_if (PW.pt (pw_and (pt_cmpR op_eq (pv 3) (pv 5) (nomark _)) (pw_and1 (pt_not (pt_val (pe_call G__law_under (hr.mono (by decide)) rfl g__law_under k__law_under b__law_under .nil pass0 (pa_cons (pv 0) (pa_cons (pv 4) (pa_cons (pv 6) pa_nil))))))))) (pss_cons (ps_ret pe_bl) pss_nil) pss_nil) pss_nil)) pss_nil)) (pss_cons (ps_ret (pe_not (pe_call G__law_under (hr.mono (by decide)) rfl g__law_under k__law_under b__law_under .nil pass0 (pa_cons (pv 0) (pa_cons (pe_ix (r := rIxT K) ix_tup (pv 1) pe_int (fun _ _ => rfl)) (pa_cons (pe_ix (r := rIxT K) ix_tup (pv 2) pe_int (fun _ _ => rfl)) pa_nil)))))) pss_nil)), ?_⟩
    obtain ⟨xs2378, hx2379, h⟩ := bindS h
    obtain ⟨t2381, hx2382, h⟩ := bindS h
    refine x_forL w0 (e_fst (e_var (R := (rP (rL (rP rS rI)) rI)) (x := one0) rfl hone0)) hx2379 (fun i G' H' σ' => ∃ s2383 : Unit, ∃ u2384 : Option V, ∃ u2385 : Option V, ∃ u2386 : Option V, ∃ u2387 : Option V, Wo G H [] G' H' [] ∧ Evl.Ex G G' ∧ σ' = [some vmasks_here0, some vone0, some vtwo0, u2385, u2384, u2386, u2387] ∧ forL (m__law_falls_b1 two0 masks_here0) (xs2378.drop i) s2383 = some t2381) (fun _ _ _ _ ⟨_, _, _, _, _, w, _⟩ => w.ex) ?_ ?_ ?_
    · intro G' H' w' e'
      exact ⟨(), (none), (none), (none), (none), w', e', rfl, hx2382⟩
    · rintro G2398 e2399 i2395 x2396 v2400 σ' G2391 H2394 hx2397 e2402 ⟨s2383, u2384, u2385, u2386, u2387, w2392, e2393, rfl, hm2389⟩ r2401
      obtain ⟨q2390, hb2388, hm2389⟩ := forL_at hx2397 hm2389
      have h2403 := Rep.mono _ e2393 hmasks_here0
      have h2404 := Rep.mono _ e2393 hone0
      have h2405 := Rep.mono _ e2393 htwo0
      refine g_pair (i := 3) (j := 4) r2401 w2392.ex ?_
      intro v2406 v2407 r2408 r2409
      cases r2408
      cases r2409
      unfold m__law_falls_b1 at hb2388
      obtain ⟨xs2410, hx2411, hb2388⟩ := bindS hb2388
      obtain ⟨t2413, hx2414, hb2388⟩ := bindS hb2388
      refine x_forL w2392 (e_fst (e_var (R := (rP (rL (rP rS rI)) rI)) (x := two0) rfl h2405)) hx2411 (fun i G' H' σ' => ∃ s2415 : Unit, ∃ u2416 : Option V, ∃ u2417 : Option V, Wo G H [] G' H' [] ∧ Evl.Ex G2391 G' ∧ σ' = [some vmasks_here0, some vone0, some vtwo0, some (V.str x2396.1), some (V.int x2396.2), u2416, u2417] ∧ forL (m__law_falls_b2 x2396 masks_here0) (xs2410.drop i) s2415 = some t2413) (fun _ _ _ _ ⟨_, _, _, w, _⟩ => w.ex) ?_ ?_ ?_
      · intro G' H' w' e'
        exact ⟨(), (u2386), (u2387), w', e', rfl, hx2414⟩
      · rintro G2428 e2429 i2425 x2426 v2430 σ' G2421 H2424 hx2427 e2432 ⟨s2415, u2416, u2417, w2422, e2423, rfl, hm2419⟩ r2431
        obtain ⟨q2420, hb2418, hm2419⟩ := forL_at hx2427 hm2419
        have h2433 := Rep.mono _ e2423 h2403
        have h2434 := Rep.mono _ e2423 h2404
        have h2435 := Rep.mono _ e2423 h2405
        refine g_pair (i := 5) (j := 6) r2431 w2422.ex ?_
        intro v2436 v2437 r2438 r2439
        cases r2438
        cases r2439
        unfold m__law_falls_b2 at hb2418
        obtain ⟨b2441, hx2442, hb2418⟩ := bindS hb2418
        refine x_if w2422 (et_and (et_T (e_op rr_eqS (e_var (R := rS) (x := x2396.1) rfl rfl) (e_var (R := rS) (x := x2426.1) rfl rfl))) (et_not (et_B (e_call (ea_cons (e_var (R := (rL rI)) (x := masks_here0) rfl (Rep.mono _ w2422.ex h2433)) (ea_cons (e_var (R := rI) (x := x2396.2) rfl rfl) (ea_cons (e_var (R := rI) (x := x2426.2) rfl rfl) ea_nil))))))) (by first | (simp only [be1, bs1, ba1] at hx2442 ⊢; exact hx2442) | exact hx2442) ?_ ?_
        · intro hbb2441 H2443 w2444
          subst hbb2441
          have hb2418 := bifT hb2418
          obtain ⟨a2445, hx2446, hb2418⟩ := bindS hb2418
          have hb2418 : some (Stp.rt a2445) = some q2420 := hb2418
          cases hb2418
          have hm2419 : some (Sum.inr a2445) = some t2413 := hm2419
          cases hm2419
          have hb2388 : some (Stp.rt a2445) = some q2390 := hb2388
          cases hb2388
          have hm2389 : some (Sum.inr a2445) = some t2381 := hm2389
          cases hm2389
          have h : a2445 = r := Option.some.inj h
          subst h
          exact x_ret w2444 e_bl hx2446 (fun v9 H9 G9 w9 e9 r9 => k v9 H9 G9 w9.upE r9)
        · intro hbb2441 H2447 w2448
          subst hbb2441
          have hb2418 := bifF hb2418
          refine x_next ?_
          refine x_next ?_
          have hb2418 : Stp.nx () = q2420 := Option.some.inj hb2418
          subst hb2418
          exact ⟨G2421, (e2432.trans (Evl.Ex.refl _)), (), (some (V.str x2426.1)), (some (V.int x2426.2)), w2448, e2423, rfl, hm2419⟩
      · rintro σ' G2449 H2452 e2453 ⟨s2415, u2416, u2417, w2450, e2451, rfl, hm2419⟩
        have hm2419 := forL_end hm2419
        subst hm2419
        have hb2388 := elimL hb2388
        have h2455 := Rep.mono _ e2451 h2403
        have h2456 := Rep.mono _ e2451 h2404
        have h2457 := Rep.mono _ e2451 h2405
        refine x_next ?_
        have hb2388 : Stp.nx () = q2390 := Option.some.inj hb2388
        subst hb2388
        exact ⟨G2449, (e2402.trans e2451), (), (some (V.int x2396.2)), (some (V.str x2396.1)), (u2416), (u2417), w2450, (e2393.trans e2451), rfl, hm2389⟩
    · rintro σ' G2458 H2461 e2462 ⟨s2383, u2384, u2385, u2386, u2387, w2459, e2460, rfl, hm2389⟩
      have hm2389 := forL_end hm2389
      subst hm2389
      have h := elimL h
      have h2464 := Rep.mono _ e2460 hmasks_here0
      have h2465 := Rep.mono _ e2460 hone0
      have h2466 := Rep.mono _ e2460 htwo0
      obtain ⟨a2468, hx2469, h⟩ := bindS h
      have h : a2468 = r := Option.some.inj h
      subst h
      exact x_ret w2459 (e_notV (e_call (ea_cons (e_var (R := (rL rI)) (x := masks_here0) rfl h2464) (ea_cons (e_snd (e_var (R := (rP (rL (rP rS rI)) rI)) (x := one0) rfl h2465)) (ea_cons (e_snd (e_var (R := (rP (rL (rP rS rI)) rI)) (x := two0) rfl h2466)) ea_nil))))) (by first | (simp only [be1, bs1, ba1] at hx2469 ⊢; exact hx2469) | exact hx2469) (fun v9 H9 G9 w9 e9 r9 => k v9 H9 G9 w9.upE r9)
def m__law_int (value0 : Int) : Option Bool :=
  (some (true && (!false)) >>= fun a2470 => some a2470)
theorem sc__law_int : FnScope ["_law_value"] ["_law_value"] (defScope s__law_int) := ⟨rfl, rfl, rfl, by decide +kernel, rfl, by decide +kernel, by decide +kernel⟩
theorem ok__law_int (T : Tx K mg) : Fk P w K mg base CX0 1 "_law_int" ["_law_value"] (PF (aC rI aN) rB (fun i => m__law_int i.1)) := by
  obtain ⟨fd, F⟩ := T.def_ 20 rfl
  have nd := sc__law_int.nd
  refine fk_mk T.toTx (x := "_law_int") (T.glo 25 rfl) F (fun _ _ _ _ _ _ us hl => match us, hl with | [_], _ => rfl) (F.ok sc__law_int (fun vs H Q E h => ?_) (fun cdv A outer s H vs Q E hr h => ?_))
  · obtain ⟨G, ⟨value0, ⟨⟩⟩, r, e0, ⟨vvalue0, _, rfl, hvalue0, rfl⟩, h, k⟩ := h
    rfl
  · obtain ⟨G, ⟨value0, ⟨⟩⟩, r, e0, ⟨vvalue0, _, rfl, hvalue0, rfl⟩, h, k⟩ := h
    cases hvalue0
    have w0 := Wo.start e0
    have h : m__law_int value0 = some r := h
    unfold m__law_int at h
    refine ⟨_, PSs.nox (pss_cons (ps_ret (pe_and (pe_callB (r := rIsi K) call_isi (by rfl) (fr_isinstance T) (by decide +kernel) (pa_cons (pv 0) (pa_cons (pe_bltn (v := .ty "int") (by rfl) (fr_int T) (by decide +kernel) rfl) pa_nil))) (pe_one (pe_not (pe_callB (r := rIsi K) call_isi (by rfl) (fr_isinstance T) (by decide +kernel) (pa_cons (pv 0) (pa_cons (pe_bltn (v := .ty "bool") (by rfl) (fr_bool T) (by decide +kernel) rfl) pa_nil))))))) pss_nil), ?_⟩
    obtain ⟨a2470, hx2471, h⟩ := bindS h
    have h : a2470 = r := Option.some.inj h
    subst h
    exact x_ret w0 (e_andP (e_isi (e_var (R := rI) (x := value0) rfl rfl) ktI (n := "int") (c := "int") (b := true) (by decide +kernel)) (e_notV (e_isi (e_var (R := rI) (x := value0) rfl rfl) ktI (n := "int") (c := "bool") (b := false) (by decide +kernel)))) hx2471 (fun v9 H9 G9 w9 e9 r9 => k v9 H9 G9 w9.upE r9)
def m__law_shape_clash_b1 (one0 : ((List (Str × Int)) × Int)) (two0 : ((List (Str × Int)) × Int)) (x2493 : Int) (s2483 : Int) : Option Int :=
  (((andO (some (s2483 == x2493)) ((atI one0.1 x2493 >>= fun t2497 => (atI two0.1 x2493 >>= fun t2498 => some (decide (t2497 = t2498)))))) >>= fun b2499 => bif b2499 then (some (x2493 + (1 : Int)) >>= fun same_2512 => some same_2512) else some s2483) >>= fun s2504 => some (s2504))
def m__law_shape_clash (one0 : ((List (Str × Int)) × Int)) (two0 : ((List (Str × Int)) × Int)) : Option Bool :=
  (some (0 : Int) >>= fun same_2472 => (some (if (two0.1.length : Int) < (one0.1.length : Int) then (two0.1.length : Int) else (one0.1.length : Int)) >>= fun n2476 => rngM 0 n2476 >>= fun xs2478 => forS (m__law_shape_clash_b1 one0 two0) xs2478 same_2472 >>= fun s2483 => (some (!(((one0.1.length : Int) == s2483) == ((two0.1.length : Int) == s2483))) >>= fun b2529 => bif b2529 then (some true >>= fun a2533 => some a2533) else ((andO (some (decide (s2483 < (one0.1.length : Int)))) (((atI one0.1 s2483 >>= fun t2537 => some t2537.1) >>= fun t2539 => ((atI two0.1 s2483 >>= fun t2538 => some t2538.1) >>= fun t2540 => some (!(decide (t2539 = t2540))))))) >>= fun a2541 => some a2541))))
theorem sc__law_shape_clash : FnScope ["_law_one", "_law_two", "_law_same", "_law_k"] ["_law_one", "_law_two"] (defScope s__law_shape_clash) := ⟨rfl, rfl, rfl, by decide +kernel, rfl, by decide +kernel, by decide +kernel⟩
theorem ok__law_shape_clash (T : Tx K mg) : Fk P w K mg base CX0 1 "_law_shape_clash" ["_law_one", "_law_two"] (PF (aC (rP (rL (rP rS rI)) rI) (aC (rP (rL (rP rS rI)) rI) aN)) rB (fun i => m__law_shape_clash i.1 i.2.1)) := by
  obtain ⟨fd, F⟩ := T.def_ 28 rfl
  have nd := sc__law_shape_clash.nd
  refine fk_mk T.toTx (x := "_law_shape_clash") (T.glo 33 rfl) F (fun _ _ _ _ _ _ us hl => match us, hl with | [_, _], _ => rfl) (F.ok sc__law_shape_clash (fun vs H Q E h => ?_) (fun cdv A outer s H vs Q E hr h => ?_))
  · obtain ⟨G, ⟨one0, two0, ⟨⟩⟩, r, e0, ⟨vone0, _, rfl, hone0, vtwo0, _, rfl, htwo0, rfl⟩, h, k⟩ := h
    rfl
  · obtain ⟨G, ⟨one0, two0, ⟨⟩⟩, r, e0, ⟨vone0, _, rfl, hone0, vtwo0, _, rfl, htwo0, rfl⟩, h, k⟩ := h
    have w0 := Wo.start e0
    have h : m__law_shape_clash one0 two0 = some r := h
    unfold m__law_shape_clash at h
    refine ⟨_, PSs.nox (pss_cons (ps_set (i := 2) nd rfl (Or.inl rfl) pe_int) (pss_cons (ps_for PassesOwn.never rfl (pi_range1 (by rfl) (fr_range T) (pa_cons (pe_callB (call_min2 rfl) (by rfl) (fr_min T) (by decide +kernel) (pa_cons (pe_callB (r := rLn K) call_len_seq (by rfl) (fr_len T) (by decide +kernel) (pa_cons (pe_ix (r := rIxT K) ix_tup (pv 0) pe_int (fun _ _ => rfl)) pa_nil)) (pa_cons (pe_callB (r := rLn K) call_len_seq (by rfl) (fr_len T) (by decide +kernel) (pa_cons (pe_ix (r := rIxT K) ix_tup (pv 1) pe_int (fun _ _ => rfl)) pa_nil)) pa_nil))) pa_nil)) (pg_name (i := 3) nd rfl (Or.inl rfl)) (Evl.pss_cut (ps_if (PW.pt (pw_and (pt_cmpR op_eq (pv 2) (pv 3) (nomark _)) (pw_and1 (pt_cmpR (r := rEqP K) (op_eqP hr.units) (pe_ix (r := rIxL K) ix_list (pe_ix (r := rIxT K) ix_tup (pv 0) pe_int (fun _ _ => rfl)) (pv 3) (fun _ _ => rfl)) (pe_ix (r := rIxL K) ix_list (pe_ix (r := rIxT K) ix_tup (pv 1) pe_int (fun _ _ => rfl)) (pv 3) (fun _ _ => rfl)) (nomark _))))) (pss_cons (ps_set (i := 2) nd rfl (Or.inl rfl) (pe_op op_add (pv 3) pe_int)) pss_nil) pss_nil) pss_nil)) (pss_cons (ps_if (pt_cmpR op_ne (pe_cmpR op_eq (pe_callB (r := rLn K) call_len_seq (by rfl) (fr_len T) (by decide +kernel) (pa_cons (pe_ix (r := rIxT K) ix_tup (pv 0) pe_int (fun _ _ => rfl)) pa_nil)) (pv 2) (nomark _)) (pe_cmpR op_eq (pe_callB (r := rLn K) call_len_seq (by rfl) (fr_len T) (by decide +kernel) (pa_cons (pe_ix (r := rIxT K) ix_tup (pv 1) pe_int (fun _ _ => rfl)) pa_nil)) (pv 2) (nomark _)) (nomark _)) (pss_cons (ps_ret pe_bl) pss_nil) pss_nil) (pss_cons (ps_ret (pe_and (pe_cmpR op_gt (pe_callB (r := rLn K) call_len_seq (by rfl) (fr_len T) (by decide +kernel) (pa_cons (pe_ix (r := rIxT K) ix_tup (pv 0) pe_int (fun _ _ => rfl)) pa_nil)) (pv 2) (nomark _)) (pe_one (pe_cmpR op_ne (pe_ix (r := rIxT K) ix_tup (pe_ix (r := rIxL K) ix_list (pe_ix (r := rIxT K) ix_tup (pv 0) pe_int (fun _ _ => rfl)) (pv 2) (fun _ _ => rfl)) pe_int (fun _ _ => rfl)) (pe_ix (r := rIxT K) ix_tup (pe_ix (r := rIxL K) ix_list (pe_ix (r := rIxT K) ix_tup (pv 1) pe_int (fun _ _ => rfl)) (pv 2) (fun _ _ => rfl)) pe_int (fun _ _ => rfl)) (nomark _))))) pss_nil)))), ?_⟩
    obtain ⟨same_2472, hx2473, h⟩ := bindS h
    refine x_setI w0 e_int hx2473 ?_
    intro H2474 w2475
    obtain ⟨n2476, hx2477, h⟩ := bindS h
    obtain ⟨xs2478, hx2479, h⟩ := bindS h
    obtain ⟨t2481, hx2482, h⟩ := bindS h
    refine x_forR w2475 (ea_cons (Sim.E.is (e_cb rc_min2 (ea_cons (e_cb rc_lenL (ea_cons (e_fst (e_var (R := (rP (rL (rP rS rI)) rI)) (x := one0) rfl hone0)) ea_nil)) (ea_cons (e_cb rc_lenL (ea_cons (e_fst (e_var (R := (rP (rL (rP rS rI)) rI)) (x := two0) rfl htwo0)) ea_nil)) ea_nil))) hx2477) ea_nil) rfl hx2479 (fun i G' H' σ' => ∃ s2483 : Int, ∃ u2484 : Option V, Wo G H [] G' H' [] ∧ Evl.Ex G G' ∧ σ' = [some vone0, some vtwo0, some (V.int s2483), u2484] ∧ forS (m__law_shape_clash_b1 one0 two0) (xs2478.drop i) s2483 = some t2481) ?_ ?_ ?_
    · intro G' H' w' e'
      exact ⟨same_2472, (none), w', e', rfl, hx2482⟩
    · rintro i2492 x2493 σ' G2488 H2491 hx2494 ⟨s2483, u2484, w2489, e2490, rfl, hm2486⟩
      obtain ⟨q2487, hb2485, hm2486⟩ := forS_at hx2494 hm2486
      have h2495 := Rep.mono _ e2490 hone0
      have h2496 := Rep.mono _ e2490 htwo0
      refine g_name ?_
      unfold m__law_shape_clash_b1 at hb2485
      obtain ⟨s2504, hx2505, hb2485⟩ := bindS hb2485
      refine o_cut (fun σ' H' => ∃ G' : Hp, Wo G H [] G' H' [] ∧ Evl.Ex G2488 G' ∧ σ' = [some vone0, some vtwo0, some (V.int s2504), some (V.int x2493)]) ?_ ?_
      · obtain ⟨b2499, hx2509, hx2505⟩ := bindS hx2505
        refine x_if w2489 (et_and (et_T (e_op rr_eqI (e_var (R := rI) (x := s2483) rfl rfl) (e_var (R := rI) (x := x2493) rfl rfl))) (et_T (e_op (rr_eqD (dtP dtS dtI) (by decide)) (e_op rr_ixL (e_fst (e_var (R := (rP (rL (rP rS rI)) rI)) (x := one0) rfl (Rep.mono _ w2489.ex h2495))) (e_var (R := rI) (x := x2493) rfl rfl)) (e_op rr_ixL (e_fst (e_var (R := (rP (rL (rP rS rI)) rI)) (x := two0) rfl (Rep.mono _ w2489.ex h2496))) (e_var (R := rI) (x := x2493) rfl rfl))))) (by first | (simp only [be1, bs1, ba1] at hx2509 ⊢; exact hx2509) | exact hx2509) ?_ ?_
        · intro hbb2499 H2510 w2511
          subst hbb2499
          have hx2505 := bifT hx2505
          obtain ⟨same_2512, hx2513, hx2505⟩ := bindS hx2505
          refine x_setI w2511 (e_op rr_add (e_var (R := rI) (x := x2493) rfl rfl) e_int) hx2513 ?_
          intro H2514 w2515
          refine x_next ?_
          have hx2505 : same_2512 = s2504 := Option.some.inj hx2505
          subst hx2505
          exact ⟨G2488, w2515, (Evl.Ex.refl _), rfl⟩
        · intro hbb2499 H2516 w2517
          subst hbb2499
          have hx2505 := bifF hx2505
          refine x_next ?_
          have hx2505 : s2483 = s2504 := Option.some.inj hx2505
          subst hx2505
          exact ⟨G2488, w2517, (Evl.Ex.refl _), rfl⟩
      · rintro σ' H2521 ⟨G2518, w2507, e2506, rfl⟩
        have h2519 := Rep.mono _ e2506 h2495
        have h2520 := Rep.mono _ e2506 h2496
        refine x_next ?_
        have hb2485 : s2504 = q2487 := Option.some.inj hb2485
        subst hb2485
        exact ⟨G2518, s2504, (some (V.int x2493)), w2507, (e2490.trans e2506), rfl, hm2486⟩
    · rintro σ' G2522 H2525 ⟨s2483, u2484, w2523, e2524, rfl, hm2486⟩
      have hm2486 := forS_end hm2486
      subst hm2486
      have h2527 := Rep.mono _ e2524 hone0
      have h2528 := Rep.mono _ e2524 htwo0
      obtain ⟨b2529, hx2530, h⟩ := bindS h
      refine x_if w2523 (et_T (e_op rr_neB (e_op rr_eqI (e_cb rc_lenL (ea_cons (e_fst (e_var (R := (rP (rL (rP rS rI)) rI)) (x := one0) rfl (Rep.mono _ w2523.ex h2527))) ea_nil)) (e_var (R := rI) (x := s2483) rfl rfl)) (e_op rr_eqI (e_cb rc_lenL (ea_cons (e_fst (e_var (R := (rP (rL (rP rS rI)) rI)) (x := two0) rfl (Rep.mono _ w2523.ex h2528))) ea_nil)) (e_var (R := rI) (x := s2483) rfl rfl)))) hx2530 ?_ ?_
      · intro hbb2529 H2531 w2532
        subst hbb2529
        have h := bifT h
        obtain ⟨a2533, hx2534, h⟩ := bindS h
        have h : a2533 = r := Option.some.inj h
        subst h
        exact x_ret w2532 e_bl hx2534 (fun v9 H9 G9 w9 e9 r9 => k v9 H9 G9 w9.upE r9)
      · intro hbb2529 H2535 w2536
        subst hbb2529
        have h := bifF h
        refine x_next ?_
        obtain ⟨a2541, hx2542, h⟩ := bindS h
        have h : a2541 = r := Option.some.inj h
        subst h
        exact x_ret w2536 (e_andV (e_op rr_gt (e_cb rc_lenL (ea_cons (e_fst (e_var (R := (rP (rL (rP rS rI)) rI)) (x := one0) rfl h2527)) ea_nil)) (e_var (R := rI) (x := s2483) rfl rfl)) (e_op rr_neS (e_fst (e_op rr_ixL (e_fst (e_var (R := (rP (rL (rP rS rI)) rI)) (x := one0) rfl h2527)) (e_var (R := rI) (x := s2483) rfl rfl))) (e_fst (e_op rr_ixL (e_fst (e_var (R := (rP (rL (rP rS rI)) rI)) (x := two0) rfl h2528)) (e_var (R := rI) (x := s2483) rfl rfl))))) (by first | (simp only [be1, bs1, ba1] at hx2542 ⊢; exact hx2542) | exact hx2542) (fun v9 H9 G9 w9 e9 r9 => k v9 H9 G9 w9.upE r9)
def m_parting_tables_b1 (order0 : m_Order) (x2663 : (Str × Int)) (s2652 : ((List (Str × Int)) × (List (Str × Int)))) : Option ((List (Str × Int)) × (List (Str × Int))) :=
  ((some (!(lookM s2652.2 x2663.1).isSome) >>= fun b2679 => bif b2679 then (m_Order_least order0 >>= fun a2703 => (some x2663.1 >>= fun k2705 => putMM s2652.2 k2705 a2703 >>= fun low_2706 => some low_2706)) else some s2652.2) >>= fun s2695 => (some x2663.2 >>= fun a2727 => (some x2663.1 >>= fun k2729 => putMM s2652.1 k2729 a2727 >>= fun high_2730 => some ((high_2730, s2695)))))
def m_parting_tables (first0 : m_Record) (second0 : m_Record) (order0 : m_Order) : Option (Option ((List (Str × Int)) × (List (Str × Int)))) :=
  ((m_clash first0 second0 order0 >>= fun t2543 => some (!decide (t2543 = (some ("values" : Str))))) >>= fun b2544 => bif b2544 then (some (none : (Option ((List (Str × Int)) × (List (Str × Int))))) >>= fun a2548 => some a2548) else (some second0 >>= fun a2552 => some first0 >>= fun a2554 => ((m_falls first0 second0 order0 >>= fun b2567 => bif b2567 then (some first0 >>= fun a2597 => some second0 >>= fun a2599 => some (a2597, a2599)) else some (a2552, a2554)) >>= fun s2585 => (some (dictP s2585.1.asks) >>= fun low_2621 => (some (dictP s2585.1.asks) >>= fun high_2634 => (some s2585.2.asks >>= fun xs2647 => forS (m_parting_tables_b1 order0) xs2647 (high_2634, low_2621) >>= fun s2652 => (some (some (s2652.2, s2652.1)) >>= fun a2772 => some a2772)))))))
theorem sc_parting_tables : FnScope ["first", "second", "order", "low", "high", "lower", "upper", "name", "answer"] ["first", "second", "order"] (defScope s_parting_tables) := ⟨rfl, rfl, rfl, by decide +kernel, rfl, by decide +kernel, by decide +kernel⟩
theorem ok_parting_tables (T : Tx K mg) : Fk P w K mg base CX0 5 "parting_tables" ["first", "second", "order"] (PFw (aC (r_Record K) (aC (r_Record K) (aC (r_Order K) aN))) (fun H => rNwP H (rM Sum.inr rI)) (fun i => m_parting_tables i.1 i.2.1 i.2.2.1)) := by
  obtain ⟨fd_clash, G_clash, b_clash, k_clash, g_clash⟩ := ok_clash (w := w) (base := base) T
  obtain ⟨fd_falls, G_falls, b_falls, k_falls, g_falls⟩ := ok_falls (w := w) (base := base) T
  obtain ⟨fd_Order_least, G_Order_least, b_Order_least⟩ := ok_Order_least (w := w) (base := base) T
  obtain ⟨fd, F⟩ := T.def_ 6 rfl
  have nd := sc_parting_tables.nd
  refine fk_mk T.toTx (x := "parting_tables") (T.glo 13 rfl) F (fun _ _ _ _ _ _ us hl => match us, hl with | [_, _, _], _ => rfl) (F.ok sc_parting_tables (fun vs H Q E h => ?_) (fun cdv A outer s H vs Q E hr h => ?_))
  · obtain ⟨G, ⟨first0, second0, order0, ⟨⟩⟩, r, e0, ⟨vfirst0, _, rfl, hfirst0, vsecond0, _, rfl, hsecond0, vorder0, _, rfl, horder0, rfl⟩, h, k⟩ := h
    rfl
  · obtain ⟨G, ⟨first0, second0, order0, ⟨⟩⟩, r, e0, ⟨vfirst0, _, rfl, hfirst0, vsecond0, _, rfl, hsecond0, vorder0, _, rfl, horder0, rfl⟩, h, k⟩ := h
    have w0 := Wo.start e0
    have h : m_parting_tables first0 second0 order0 = some r := h
    unfold m_parting_tables at h
    refine ⟨_, PSs.nox (pss_cons (ps_if (pt_cmpR (r := rNeP K) (op_neP hr.units) (pe_call G_clash (hr.mono (by decide)) rfl g_clash k_clash b_clash .nil pass0 (pa_cons (pv 0) (pa_cons (pv 1) (pa_cons (pv 2) pa_nil)))) pe_str (nomark _)) (pss_cons (ps_ret pe_non) pss_nil) pss_nil) (pss_cons (ps_par (i := 5) (j := 6) rfl nd rfl rfl (by decide) rfl rfl (pa_cons (pv 1) (pa_cons (pv 0) pa_nil)) rfl) (Evl.pss_cut (ps_if (pt_val (pe_call G_falls (hr.mono (by decide)) rfl g_falls k_falls b_falls .nil pass0 (pa_cons (pv 0) (pa_cons (pv 1) (pa_cons (pv 2) pa_nil))))) (pss_cons (ps_par (i := 5) (j := 6) rfl nd rfl rfl (by decide) rfl rfl (pa_cons (pv 0) (pa_cons (pv 1) pa_nil)) rfl) pss_nil) pss_nil) (pss_cons (ps_set (i := 3) nd rfl (Or.inl rfl) (pe_callTy (r := rDcT K) (call_dictT (by rfl)) (by rfl) (fr_dict T) (by decide +kernel) (pa_cons (SlX.pe_sl (pv 5) (by rfl)) pa_nil))) (pss_cons (ps_set (i := 4) nd rfl (Or.inl rfl) (pe_callTy (r := rDcT K) (call_dictT (by rfl)) (by rfl) (fr_dict T) (by decide +kernel) (pa_cons (SlX.pe_sl (pv 5) (by rfl)) pa_nil))) (pss_cons (ps_for PassesOwn.never rfl (pi_tup (SlX.pe_sl (pv 6) (by rfl))) (pg_tup (by rfl) (pgs_cons (pg_name (i := 7) nd rfl (by first | exact Or.inl rfl | exact Or.inr rfl)) (pgs_cons (pg_name (i := 8) nd rfl (by first | exact Or.inl rfl | exact Or.inr rfl)) pgs_nil))) (Evl.pss_cut (ps_if (pt_cmp (pc_dnotin (hu_of hr) (pv 7) (pv 3)) rfl) (pss_cons (ps_dput (hu_of hr) (pv 3) (pv 7) (pe_prop (pv 2) (T.cls 51 rfl) ((T.ge 0 rfl).1 rfl) G_Order_least (hr.mono (by decide)) b_Order_least .nil pass0 rfl) rfl) pss_nil) pss_nil) (pss_cons (ps_dput (hu_of hr) (pv 4) (pv 7) (pv 8) rfl) pss_nil))) (pss_cons (ps_ret (pe_tup (pa_cons (pv 3) (pa_cons (pv 4) pa_nil)))) pss_nil))))))), ?_⟩
    obtain ⟨b2544, hx2545, h⟩ := bindS h
    refine x_if w0 (et_T (e_op (rr_neD (dtO dtS) (by decide)) (e_call (ea_cons (e_var (R := (r_Record K)) (x := first0) rfl (Rep.mono _ w0.ex hfirst0)) (ea_cons (e_var (R := (r_Record K)) (x := second0) rfl (Rep.mono _ w0.ex hsecond0)) (ea_cons (e_var (R := (r_Order K)) (x := order0) rfl (Rep.mono _ w0.ex horder0)) ea_nil)))) (e_some e_str))) (by first | (simp only [be1, bs1, ba1] at hx2545 ⊢; exact hx2545) | exact hx2545) ?_ ?_
    · intro hbb2544 H2546 w2547
      subst hbb2544
      have h := bifT h
      obtain ⟨a2548, hx2549, h⟩ := bindS h
      have h : a2548 = r := Option.some.inj h
      subst h
      exact x_ret w2547 (e_none (R := rP (rNw H (rM Sum.inr rI)) (rNw H (rM Sum.inr rI)))) hx2549 (fun v9 H9 G9 w9 e9 r9 => k v9 H9 G9 w9.upE r9)
    · intro hbb2544 H2550 w2551
      subst hbb2544
      have h := bifF h
      refine x_next ?_
      obtain ⟨a2552, hx2553, h⟩ := bindS h
      obtain ⟨a2554, hx2555, h⟩ := bindS h
      refine x_par (i := 5) (j := 6) w2551 (ea_cons (Sim.E.is (e_var (R := (r_Record K)) (x := second0) rfl hsecond0) (by first | (simp only [be1, bs1, ba1] at hx2553 ⊢; exact hx2553) | exact hx2553)) (ea_cons (Sim.E.is (e_var (R := (r_Record K)) (x := first0) rfl hfirst0) (by first | (simp only [be1, bs1, ba1] at hx2555 ⊢; exact hx2555) | exact hx2555)) ea_nil)) ?_
      intro v2560 v2561 H2556 G2557 w2558 e2559 h2562 h2563
      have h2564 := Rep.mono _ e2559 hfirst0
      have h2565 := Rep.mono _ e2559 hsecond0
      have h2566 := Rep.mono _ e2559 horder0
      obtain ⟨s2585, hx2586, h⟩ := bindS h
      refine o_cut (fun σ' H' => ∃ v2587 : V, ∃ v2589 : V, ∃ G' : Hp, Wo G H [] G' H' [] ∧ Evl.Ex G2557 G' ∧ σ' = [some vfirst0, some vsecond0, some vorder0, none, none, some v2587, some v2589, none, none] ∧ (r_Record K).r G' v2587 s2585.1 ∧ (r_Record K).r G' v2589 s2585.2) ?_ ?_
      · obtain ⟨b2567, hx2594, hx2586⟩ := bindS hx2586
        refine x_if w2558 (et_B (e_call (ea_cons (e_var (R := (r_Record K)) (x := first0) rfl (Rep.mono _ w2558.ex h2564)) (ea_cons (e_var (R := (r_Record K)) (x := second0) rfl (Rep.mono _ w2558.ex h2565)) (ea_cons (e_var (R := (r_Order K)) (x := order0) rfl (Rep.mono _ w2558.ex h2566)) ea_nil))))) (by first | (simp only [be1, bs1, ba1] at hx2594 ⊢; exact hx2594) | exact hx2594) ?_ ?_
        · intro hbb2567 H2595 w2596
          subst hbb2567
          have hx2586 := bifT hx2586
          obtain ⟨a2597, hx2598, hx2586⟩ := bindS hx2586
          obtain ⟨a2599, hx2600, hx2586⟩ := bindS hx2586
          refine x_par (i := 5) (j := 6) w2596 (ea_cons (Sim.E.is (e_var (R := (r_Record K)) (x := first0) rfl h2564) (by first | (simp only [be1, bs1, ba1] at hx2598 ⊢; exact hx2598) | exact hx2598)) (ea_cons (Sim.E.is (e_var (R := (r_Record K)) (x := second0) rfl h2565) (by first | (simp only [be1, bs1, ba1] at hx2600 ⊢; exact hx2600) | exact hx2600)) ea_nil)) ?_
          intro v2605 v2606 H2601 G2602 w2603 e2604 h2607 h2608
          have h2609 := Rep.mono _ e2604 h2564
          have h2610 := Rep.mono _ e2604 h2565
          have h2611 := Rep.mono _ e2604 h2566
          have h2612 := Rep.mono _ e2604 h2562
          have h2613 := Rep.mono _ e2604 h2563
          refine x_next ?_
          have hx2586 : (a2597, a2599) = s2585 := Option.some.inj hx2586
          subst hx2586
          exact ⟨v2605, v2606, G2602, w2603, e2604, rfl, h2607, h2608⟩
        · intro hbb2567 H2614 w2615
          subst hbb2567
          have hx2586 := bifF hx2586
          refine x_next ?_
          have hx2586 : (a2552, a2554) = s2585 := Option.some.inj hx2586
          subst hx2586
          exact ⟨v2560, v2561, G2557, w2615, (Evl.Ex.refl _), rfl, h2562, h2563⟩
      · rintro σ' H2620 ⟨v2587, v2589, G2616, w2592, e2591, rfl, h2588, h2590⟩
        have h2617 := Rep.mono _ e2591 h2564
        have h2618 := Rep.mono _ e2591 h2565
        have h2619 := Rep.mono _ e2591 h2566
        obtain ⟨low_2621, hx2622, h⟩ := bindS h
        refine x_setC w2592 (ec_dictTd kyS injS (e_sl (fun (o : m_Record) => o.asks) (e_var (R := (r_Record K)) (x := s2585.1) rfl h2588) (scl_ok (T.mo 1 rfl)) (slot_ok (T.mo 3 rfl)) (fun _ => (List.mem_cons_of_mem _ (List.mem_cons_self ..))))) hx2622 ?_
        intro p2625 H2623 G2626 n2627 w2624 e2628
        have h2629 := Rep.mono _ e2628 h2617
        have h2630 := Rep.mono _ e2628 h2618
        have h2631 := Rep.mono _ e2628 h2619
        have h2632 := Rep.mono _ e2628 h2588
        have h2633 := Rep.mono _ e2628 h2590
        obtain ⟨high_2634, hx2635, h⟩ := bindS h
        refine x_setC w2624 (ec_dictTd kyS injS (e_sl (fun (o : m_Record) => o.asks) (e_var (R := (r_Record K)) (x := s2585.1) rfl h2632) (scl_ok (T.mo 1 rfl)) (slot_ok (T.mo 3 rfl)) (fun _ => (List.mem_cons_of_mem _ (List.mem_cons_self ..))))) hx2635 ?_
        intro p2638 H2636 G2639 n2640 w2637 e2641
        have h2642 := Rep.mono _ e2641 h2629
        have h2643 := Rep.mono _ e2641 h2630
        have h2644 := Rep.mono _ e2641 h2631
        have h2645 := Rep.mono _ e2641 h2632
        have h2646 := Rep.mono _ e2641 h2633
        obtain ⟨xs2647, hx2648, h⟩ := bindS h
        obtain ⟨t2650, hx2651, h⟩ := bindS h
        refine x_forT w2637 (e_cv (c := fun x => x) (e_sl (fun (o : m_Record) => o.asks) (e_var (R := (r_Record K)) (x := s2585.2) rfl h2646) (scl_ok (T.mo 1 rfl)) (slot_ok (T.mo 3 rfl)) (fun _ => (List.mem_cons_of_mem _ (List.mem_cons_self ..)))) rTd_t) hx2648 (fun i G' H' σ' => ∃ s2652 : ((List (Str × Int)) × (List (Str × Int))), ∃ u2653 : Option V, ∃ u2654 : Option V, Wo G H [] G' H' [(p2638, cM Sum.inr rI s2652.1), (p2625, cM Sum.inr rI s2652.2)] ∧ Evl.Ex G2639 G' ∧ σ' = [some vfirst0, some vsecond0, some vorder0, some (V.ref p2625), some (V.ref p2638), some v2587, some v2589, u2654, u2653] ∧ forS (m_parting_tables_b1 order0) (xs2647.drop i) s2652 = some t2650) (fun _ _ _ _ ⟨_, _, _, w, _⟩ => w.ex) ?_ ?_ ?_
        · intro G' H' w' e'
          exact ⟨(high_2634, low_2621), (none), (none), w', e', rfl, hx2651⟩
        · rintro G2665 e2666 i2662 x2663 v2667 σ' G2658 H2661 hx2664 e2669 ⟨s2652, u2653, u2654, w2659, e2660, rfl, hm2656⟩ r2668
          obtain ⟨q2657, hb2655, hm2656⟩ := forS_at hx2664 hm2656
          have h2670 := Rep.mono _ e2660 h2642
          have h2671 := Rep.mono _ e2660 h2643
          have h2672 := Rep.mono _ e2660 h2644
          have h2673 := Rep.mono _ e2660 h2645
          have h2674 := Rep.mono _ e2660 h2646
          refine g_pair (i := 7) (j := 8) r2668 w2659.ex ?_
          intro v2675 v2676 r2677 r2678
          cases r2677
          cases r2678
          unfold m_parting_tables_b1 at hb2655
          obtain ⟨s2695, hx2696, hb2655⟩ := bindS hb2655
          refine o_cut (fun σ' H' => ∃ G' : Hp, Wo G H [] G' H' [(p2638, cM Sum.inr rI s2652.1), (p2625, cM Sum.inr rI s2695)] ∧ Evl.Ex G2658 G' ∧ σ' = [some vfirst0, some vsecond0, some vorder0, some (V.ref p2625), some (V.ref p2638), some v2587, some v2589, some (V.str x2663.1), some (V.int x2663.2)]) ?_ ?_
          · obtain ⟨b2679, hx2700, hx2696⟩ := bindS hx2696
            refine x_if w2659 (et_B (e_dnotin kyS injS (e_var (R := rS) (x := x2663.1) rfl rfl) (e_var (R := (rM Sum.inr rI)) (x := s2652.2) rfl (w2659.rCAt fzM (i := 1) rfl)))) hx2700 ?_ ?_
            · intro hbb2679 H2701 w2702
              subst hbb2679
              have hx2696 := bifT hx2696
              obtain ⟨a2703, hx2704, hx2696⟩ := bindS hx2696
              obtain ⟨k2705, hx2707, hx2696⟩ := bindS hx2696
              obtain ⟨low_2706, hx2708, hx2696⟩ := bindS hx2696
              refine x_putM kyS injS (j := 1) w2702 rfl rfl (e_prop (e_var (R := (r_Order K)) (x := order0) rfl h2672)) hx2704 (e_var (R := rS) (x := x2663.1) rfl rfl) hx2707 hx2708 ?_
              intro H2709 G2710 w2711 e2712
              have h2713 := Rep.mono _ e2712 h2670
              have h2714 := Rep.mono _ e2712 h2671
              have h2715 := Rep.mono _ e2712 h2672
              have h2716 := Rep.mono _ e2712 h2673
              have h2717 := Rep.mono _ e2712 h2674
              have w2711 : Wo G H [] G2710 H2709 [(p2638, cM Sum.inr rI s2652.1), (p2625, cM Sum.inr rI low_2706)] := w2711
              refine x_next ?_
              have hx2696 : low_2706 = s2695 := Option.some.inj hx2696
              subst hx2696
              exact ⟨G2710, w2711, e2712, rfl⟩
            · intro hbb2679 H2718 w2719
              subst hbb2679
              have hx2696 := bifF hx2696
              refine x_next ?_
              have hx2696 : s2652.2 = s2695 := Option.some.inj hx2696
              subst hx2696
              exact ⟨G2658, w2719, (Evl.Ex.refl _), rfl⟩
          · rintro σ' H2726 ⟨G2720, w2698, e2697, rfl⟩
            have h2721 := Rep.mono _ e2697 h2670
            have h2722 := Rep.mono _ e2697 h2671
            have h2723 := Rep.mono _ e2697 h2672
            have h2724 := Rep.mono _ e2697 h2673
            have h2725 := Rep.mono _ e2697 h2674
            obtain ⟨a2727, hx2728, hb2655⟩ := bindS hb2655
            obtain ⟨k2729, hx2731, hb2655⟩ := bindS hb2655
            obtain ⟨high_2730, hx2732, hb2655⟩ := bindS hb2655
            refine x_putM kyS injS (j := 0) w2698 rfl rfl (e_var (R := rI) (x := x2663.2) rfl rfl) hx2728 (e_var (R := rS) (x := x2663.1) rfl rfl) hx2731 hx2732 ?_
            intro H2733 G2734 w2735 e2736
            have h2737 := Rep.mono _ e2736 h2721
            have h2738 := Rep.mono _ e2736 h2722
            have h2739 := Rep.mono _ e2736 h2723
            have h2740 := Rep.mono _ e2736 h2724
            have h2741 := Rep.mono _ e2736 h2725
            have w2735 : Wo G H [] G2734 H2733 [(p2638, cM Sum.inr rI high_2730), (p2625, cM Sum.inr rI s2695)] := w2735
            refine x_next ?_
            have hb2655 : (high_2730, s2695) = q2657 := Option.some.inj hb2655
            subst hb2655
            exact ⟨G2734, (e2669.trans (e2697.trans e2736)), (high_2730, s2695), (some (V.int x2663.2)), (some (V.str x2663.1)), w2735, ((e2660.trans e2697).trans e2736), rfl, hm2656⟩
        · rintro σ' G2742 H2745 e2746 ⟨s2652, u2653, u2654, w2743, e2744, rfl, hm2656⟩
          have hm2656 := forS_end hm2656
          subst hm2656
          have h2748 := Rep.mono _ e2744 h2642
          have h2749 := Rep.mono _ e2744 h2643
          have h2750 := Rep.mono _ e2744 h2644
          have h2751 := Rep.mono _ e2744 h2645
          have h2752 := Rep.mono _ e2744 h2646
          obtain ⟨G2753, w2754, e2755, h2756⟩ := w2743.freezeC fzM (i := 0) rfl n2640
          have h2757 := Rep.mono _ e2755 h2748
          have h2758 := Rep.mono _ e2755 h2749
          have h2759 := Rep.mono _ e2755 h2750
          have h2760 := Rep.mono _ e2755 h2751
          have h2761 := Rep.mono _ e2755 h2752
          have w2754 : Wo G H [] G2753 H2745 [(p2625, cM Sum.inr rI s2652.2)] := w2754
          obtain ⟨G2762, w2763, e2764, h2765⟩ := w2754.freezeC fzM (i := 0) rfl n2627
          have h2766 := Rep.mono _ e2764 h2757
          have h2767 := Rep.mono _ e2764 h2758
          have h2768 := Rep.mono _ e2764 h2759
          have h2769 := Rep.mono _ e2764 h2760
          have h2770 := Rep.mono _ e2764 h2761
          have h2771 := Rep.mono _ e2764 h2756
          have w2763 : Wo G H [] G2762 H2745 [] := w2763
          obtain ⟨a2772, hx2773, h⟩ := bindS h
          have h : a2772 = r := Option.some.inj h
          subst h
          exact x_ret w2763 (e_some (e_pair (e_var (R := rNw H (rM Sum.inr rI)) (x := s2652.2) rfl ⟨h2765, _, rfl, n2627⟩) (e_var (R := rNw H (rM Sum.inr rI)) (x := s2652.1) rfl ⟨h2771, _, rfl, n2640⟩))) hx2773 (fun v9 H9 G9 w9 e9 r9 => k v9 H9 G9 w9.upE r9)
def m__law_parting_due_b1 (masks_here0 : (List Int)) (x2873 : (Str × Int)) (s2862 : ((List (Str × Int)) × ((List Str) × (List (Str × Int))))) : Option ((List (Str × Int)) × ((List Str) × (List (Str × Int)))) :=
  ((some (!s2862.2.1.any fun z => z == x2873.1) >>= fun b2889 => bif b2889 then (some x2873.1 >>= fun a2928 => appM s2862.2.1 a2928 >>= fun keys_2929 => ((minL masks_here0 >>= fun t2942 => idxM (fun a b => a == b) masks_here0 t2942) >>= fun a2943 => (some x2873.1 >>= fun k2945 => putMM s2862.2.2 k2945 a2943 >>= fun low_2946 => some (keys_2929, low_2946)))) else some (s2862.2.1, s2862.2.2)) >>= fun s2920 => (some x2873.2 >>= fun a2967 => (some x2873.1 >>= fun k2969 => putMM s2862.1 k2969 a2967 >>= fun high_2970 => some ((high_2970, (s2920.1, s2920.2))))))
def m__law_parting_due_b2 (masks_here0 : (List Int)) (x3118 : (Str × Int)) (s3107 : ((List (Str × Int)) × ((List Str) × (List (Str × Int))))) : Option ((List (Str × Int)) × ((List Str) × (List (Str × Int)))) :=
  ((some (!s3107.2.1.any fun z => z == x3118.1) >>= fun b3134 => bif b3134 then (some x3118.1 >>= fun a3173 => appM s3107.2.1 a3173 >>= fun keys_3174 => ((minL masks_here0 >>= fun t3187 => idxM (fun a b => a == b) masks_here0 t3187) >>= fun a3188 => (some x3118.1 >>= fun k3190 => putMM s3107.2.2 k3190 a3188 >>= fun low_3191 => some (keys_3174, low_3191)))) else some (s3107.2.1, s3107.2.2)) >>= fun s3165 => (some x3118.2 >>= fun a3212 => (some x3118.1 >>= fun k3214 => putMM s3107.1 k3214 a3212 >>= fun high_3215 => some ((high_3215, (s3165.1, s3165.2))))))
def m__law_parting_due (masks_here0 : (List Int)) (one0 : ((List (Str × Int)) × Int)) (two0 : ((List (Str × Int)) × Int)) : Option (Option ((List Str) × (List (Str × Int)) × (List (Str × Int)) × ((List (Str × Int)) × Int) × ((List (Str × Int)) × Int) × Unit)) :=
  (m__law_shape_clash one0 two0 >>= fun b2774 => bif b2774 then (some (none : (Option ((List Str) × (List (Str × Int)) × (List (Str × Int)) × ((List (Str × Int)) × Int) × ((List (Str × Int)) × Int) × Unit))) >>= fun a2778 => some a2778) else (m__law_falls masks_here0 one0 two0 >>= fun b2782 => bif b2782 then (some one0 >>= fun lower_2786 => (some two0 >>= fun upper_2797 => (mapS (fun x2812 => some x2812.1) lower_2786.1 >>= fun keys_2818 => (some (dictP lower_2786.1) >>= fun low_2831 => (some (dictP lower_2786.1) >>= fun high_2844 => (some upper_2797.1 >>= fun xs2857 => forS (m__law_parting_due_b1 masks_here0) xs2857 (high_2844, (keys_2818, low_2831)) >>= fun s2862 => (some (some (s2862.2.1, s2862.2.2, s2862.1, lower_2786, upper_2797, ())) >>= fun a3023 => some a3023))))))) else (m__law_falls masks_here0 two0 one0 >>= fun b3027 => bif b3027 then (some two0 >>= fun lower_3031 => (some one0 >>= fun upper_3042 => (mapS (fun x3057 => some x3057.1) lower_3031.1 >>= fun keys_3063 => (some (dictP lower_3031.1) >>= fun low_3076 => (some (dictP lower_3031.1) >>= fun high_3089 => (some upper_3042.1 >>= fun xs3102 => forS (m__law_parting_due_b2 masks_here0) xs3102 (high_3089, (keys_3063, low_3076)) >>= fun s3107 => (some (some (s3107.2.1, s3107.2.2, s3107.1, lower_3031, upper_3042, ())) >>= fun a3268 => some a3268))))))) else (some (none : (Option ((List Str) × (List (Str × Int)) × (List (Str × Int)) × ((List (Str × Int)) × Int) × ((List (Str × Int)) × Int) × Unit))) >>= fun a3272 => some a3272))))
theorem sc__law_parting_due : FnScope ["_law_masks_here", "_law_one", "_law_two", "_law_keys", "_law_low", "_law_high", "_law_lower", "_law_upper", "_law_name", "_law_answer", "_law_pair"] ["_law_masks_here", "_law_one", "_law_two"] (defScope s__law_parting_due) := ⟨rfl, rfl, rfl, by decide +kernel, rfl, by decide +kernel, by decide +kernel⟩
theorem ok__law_parting_due (T : Tx K mg) : Fk P w K mg base CX0 3 "_law_parting_due" ["_law_masks_here", "_law_one", "_law_two"] (PF (aC (rL rI) (aC (rP (rL (rP rS rI)) rI) (aC (rP (rL (rP rS rI)) rI) aN))) (rO (rTup (aC (rL rS) (aC (rM Sum.inr rI) (aC (rM Sum.inr rI) (aC (rP (rL (rP rS rI)) rI) (aC (rP (rL (rP rS rI)) rI) aN))))))) (fun i => m__law_parting_due i.1 i.2.1 i.2.2.1)) := by
  obtain ⟨fd__law_shape_clash, G__law_shape_clash, b__law_shape_clash, k__law_shape_clash, g__law_shape_clash⟩ := ok__law_shape_clash (w := w) (base := base) T
  obtain ⟨fd__law_falls, G__law_falls, b__law_falls, k__law_falls, g__law_falls⟩ := ok__law_falls (w := w) (base := base) T
  obtain ⟨fd, F⟩ := T.def_ 29 rfl
  have nd := sc__law_parting_due.nd
  refine fk_mk T.toTx (x := "_law_parting_due") (T.glo 34 rfl) F (fun _ _ _ _ _ _ us hl => match us, hl with | [_, _, _], _ => rfl) (F.ok sc__law_parting_due (fun vs H Q E h => ?_) (fun cdv A outer s H vs Q E hr h => ?_))
  · obtain ⟨G, ⟨masks_here0, one0, two0, ⟨⟩⟩, r, e0, ⟨vmasks_here0, _, rfl, hmasks_here0, vone0, _, rfl, hone0, vtwo0, _, rfl, htwo0, rfl⟩, h, k⟩ := h
    rfl
  · obtain ⟨G, ⟨masks_here0, one0, two0, ⟨⟩⟩, r, e0, ⟨vmasks_here0, _, rfl, hmasks_here0, vone0, _, rfl, hone0, vtwo0, _, rfl, htwo0, rfl⟩, h, k⟩ := h
    have w0 := Wo.start e0
    have h : m__law_parting_due masks_here0 one0 two0 = some r := h
    unfold m__law_parting_due at h
    refine ⟨_, PSs.nox (pss_cons (ps_if (pt_val (pe_call G__law_shape_clash (hr.mono (by decide)) rfl g__law_shape_clash k__law_shape_clash b__law_shape_clash .nil pass0 (pa_cons (pv 1) (pa_cons (pv 2) pa_nil)))) (pss_cons (ps_ret pe_non) pss_nil) pss_nil) (pss_cons (ps_if (pt_val (pe_call G__law_falls (hr.mono (by decide)) rfl g__law_falls k__law_falls b__law_falls .nil pass0 (pa_cons (pv 0) (pa_cons (pv 1) (pa_cons (pv 2) pa_nil))))) (pss_cons (ps_set (i := 6) nd rfl (Or.inl rfl) (pv 1)) (pss_cons (ps_set (i := 7) nd rfl (Or.inl rfl) (pv 2)) pss_nil)) (pss_cons (ps_if (pt_val (pe_call G__law_falls (hr.mono (by decide)) rfl g__law_falls k__law_falls b__law_falls .nil pass0 (pa_cons (pv 0) (pa_cons (pv 2) (pa_cons (pv 1) pa_nil))))) (pss_cons (ps_set (i := 6) nd rfl (Or.inl rfl) (pv 2)) (pss_cons (ps_set (i := 7) nd rfl (Or.inl rfl) (pv 1)) pss_nil)) (pss_cons (ps_ret pe_non) pss_nil)) pss_nil)) (pss_cons (ps_setLc (i := 3) (own := [("_law_pair", 10)]) (by rfl) nd rfl rfl (sw_true rfl rfl rfl (by decide +kernel)) (show L2.PI _ _ _ (iList K _) from pi_list (pe_ix (r := rIxT K) ix_tup (pv 6) pe_int (fun _ _ => rfl))) (blkOk_by (by kernel_rfl)) (fun _ _ _ _ _ => pg_name (i := 10) nd rfl (by first | exact Or.inl rfl | exact Or.inr rfl)) (fun _ _ _ _ _ => pts_nil) (fun _ _ _ _ _ => (pe_ix (r := rIxT K) ix_tup (pv 10) pe_int (fun _ _ => rfl)))) (pss_cons (ps_set (i := 4) nd rfl (Or.inl rfl) (pe_callTy (r := rDcT K) (call_dictT (by rfl)) (by rfl) (fr_dict T) (by decide +kernel) (pa_cons (pe_ix (r := rIxT K) ix_tup (pv 6) pe_int (fun _ _ => rfl)) pa_nil))) (pss_cons (ps_set (i := 5) nd rfl (Or.inl rfl) (pe_callTy (r := rDcT K) (call_dictT (by rfl)) (by rfl) (fr_dict T) (by decide +kernel) (pa_cons (pe_ix (r := rIxT K) ix_tup (pv 6) pe_int (fun _ _ => rfl)) pa_nil))) (pss_cons (ps_for PassesOwn.never rfl (pi_list (pe_ix (r := rIxT K) ix_tup (pv 7) pe_int (fun _ _ => rfl))) (pg_tup (by rfl) (pgs_cons (pg_name (i := 8) nd rfl (by first | exact Or.inl rfl | exact Or.inr rfl)) (pgs_cons (pg_name (i := 9) nd rfl (by first | exact Or.inl rfl | exact Or.inr rfl)) pgs_nil))) (Evl.pss_cut (ps_if (pt_cmpR (r := rIn K true) op_notIn_seq (pv 8) (pv 3) (by rfl)) (pss_cons (ps_expr (pe_bm PySem.F.plainAttrs_list PySem.F.slot_list_append PySem.F.type_list_append mt_append (pv 3) (pa_cons (pv 8) pa_nil))) (pss_cons (ps_dput (hu_of hr) (pv 4) (pv 8) (pe_bm PySem.F.plainAttrs_list PySem.F.slot_list_index PySem.F.type_list_index mt_index (pv 0) (pa_cons (pe_callB (r := rMin K) (cr_min rfl) (by rfl) (fr_min T) (by decide +kernel) (pa_cons (pv 0) pa_nil)) pa_nil)) rfl) pss_nil)) pss_nil) (pss_cons (ps_dput (hu_of hr) (pv 5) (pv 8) (pv 9) rfl) pss_nil))) (pss_cons (ps_ret (pe_tup (pa_cons (pv 3) (pa_cons (pv 4) (pa_cons (pv 5) (pa_cons (pv 6) (pa_cons (pv 7) pa_nil))))))) pss_nil))))))), ?_⟩
    obtain ⟨b2774, hx2775, h⟩ := bindS h
    refine x_if w0 (et_B (e_call (ea_cons (e_var (R := (rP (rL (rP rS rI)) rI)) (x := one0) rfl (Rep.mono _ w0.ex hone0)) (ea_cons (e_var (R := (rP (rL (rP rS rI)) rI)) (x := two0) rfl (Rep.mono _ w0.ex htwo0)) ea_nil)))) (by first | (simp only [be1, bs1, ba1] at hx2775 ⊢; exact hx2775) | exact hx2775) ?_ ?_
    · intro hbb2774 H2776 w2777
      subst hbb2774
      have h := bifT h
      obtain ⟨a2778, hx2779, h⟩ := bindS h
      have h : a2778 = r := Option.some.inj h
      subst h
      exact x_ret w2777 (e_none (R := (rTup (aC (rL rS) (aC (rM Sum.inr rI) (aC (rM Sum.inr rI) (aC (rP (rL (rP rS rI)) rI) (aC (rP (rL (rP rS rI)) rI) aN)))))))) hx2779 (fun v9 H9 G9 w9 e9 r9 => k v9 H9 G9 w9.upE r9)
    · intro hbb2774 H2780 w2781
      subst hbb2774
      have h := bifF h
      refine x_next ?_
      obtain ⟨b2782, hx2783, h⟩ := bindS h
      refine x_if w2781 (et_B (e_call (ea_cons (e_var (R := (rL rI)) (x := masks_here0) rfl (Rep.mono _ w2781.ex hmasks_here0)) (ea_cons (e_var (R := (rP (rL (rP rS rI)) rI)) (x := one0) rfl (Rep.mono _ w2781.ex hone0)) (ea_cons (e_var (R := (rP (rL (rP rS rI)) rI)) (x := two0) rfl (Rep.mono _ w2781.ex htwo0)) ea_nil))))) (by first | (simp only [be1, bs1, ba1] at hx2783 ⊢; exact hx2783) | exact hx2783) ?_ ?_
      · intro hbb2782 H2784 w2785
        subst hbb2782
        have h := bifT h
        obtain ⟨lower_2786, hx2787, h⟩ := bindS h
        refine x_set w2785 (e_var (R := (rP (rL (rP rS rI)) rI)) (x := one0) rfl hone0) hx2787 ?_
        intro v2790 H2788 G2791 w2789 e2792 h2793
        have h2794 := Rep.mono _ e2792 hmasks_here0
        have h2795 := Rep.mono _ e2792 hone0
        have h2796 := Rep.mono _ e2792 htwo0
        obtain ⟨upper_2797, hx2798, h⟩ := bindS h
        refine x_set w2789 (e_var (R := (rP (rL (rP rS rI)) rI)) (x := two0) rfl h2796) hx2798 ?_
        intro v2801 H2799 G2802 w2800 e2803 h2804
        have h2805 := Rep.mono _ e2803 h2794
        have h2806 := Rep.mono _ e2803 h2795
        have h2807 := Rep.mono _ e2803 h2796
        have h2808 := Rep.mono _ e2803 h2793
        refine x_next ?_
        obtain ⟨keys_2818, hx2819, h⟩ := bindS h
        refine x_setL w2800 (el_map (el_lcL (j := 10) (e_fst (e_var (R := (rP (rL (rP rS rI)) rI)) (x := lower_2786) rfl h2808)) (fun _ => rfl) (fun _ _ _ _ _ _ _ _ => et_yes) (fun x2812 v2815 G2813 W2814 eG2809 eW2810 eX2811 h2816 => (e_fst (e_var (R := (rP rS rI)) (x := x2812) rfl h2816))))) hx2819 ?_
        intro p2822 H2820 G2823 n2824 w2821 e2825
        have h2826 := Rep.mono _ e2825 h2805
        have h2827 := Rep.mono _ e2825 h2806
        have h2828 := Rep.mono _ e2825 h2807
        have h2829 := Rep.mono _ e2825 h2808
        have h2830 := Rep.mono _ e2825 h2804
        obtain ⟨low_2831, hx2832, h⟩ := bindS h
        refine x_setC w2821 (ec_dictL2 kyS injS (e_fst (e_var (R := (rP (rL (rP rS rI)) rI)) (x := lower_2786) rfl h2829))) hx2832 ?_
        intro p2835 H2833 G2836 n2837 w2834 e2838
        have h2839 := Rep.mono _ e2838 h2826
        have h2840 := Rep.mono _ e2838 h2827
        have h2841 := Rep.mono _ e2838 h2828
        have h2842 := Rep.mono _ e2838 h2829
        have h2843 := Rep.mono _ e2838 h2830
        obtain ⟨high_2844, hx2845, h⟩ := bindS h
        refine x_setC w2834 (ec_dictL2 kyS injS (e_fst (e_var (R := (rP (rL (rP rS rI)) rI)) (x := lower_2786) rfl h2842))) hx2845 ?_
        intro p2848 H2846 G2849 n2850 w2847 e2851
        have h2852 := Rep.mono _ e2851 h2839
        have h2853 := Rep.mono _ e2851 h2840
        have h2854 := Rep.mono _ e2851 h2841
        have h2855 := Rep.mono _ e2851 h2842
        have h2856 := Rep.mono _ e2851 h2843
        obtain ⟨xs2857, hx2858, h⟩ := bindS h
        obtain ⟨t2860, hx2861, h⟩ := bindS h
        refine x_forL w2847 (e_fst (e_var (R := (rP (rL (rP rS rI)) rI)) (x := upper_2797) rfl h2856)) hx2858 (fun i G' H' σ' => ∃ s2862 : ((List (Str × Int)) × ((List Str) × (List (Str × Int)))), ∃ u2863 : Option V, ∃ u2864 : Option V, Wo G H [] G' H' [(p2848, cM Sum.inr rI s2862.1), (p2835, cM Sum.inr rI s2862.2.2), (p2822, cL rS s2862.2.1)] ∧ Evl.Ex G2849 G' ∧ σ' = [some vmasks_here0, some vone0, some vtwo0, some (V.ref p2822), some (V.ref p2835), some (V.ref p2848), some v2790, some v2801, u2864, u2863, none] ∧ forS (m__law_parting_due_b1 masks_here0) (xs2857.drop i) s2862 = some t2860) (fun _ _ _ _ ⟨_, _, _, w, _⟩ => w.ex) ?_ ?_ ?_
        · intro G' H' w' e'
          exact ⟨(high_2844, (keys_2818, low_2831)), (none), (none), w', e', rfl, hx2861⟩
        · rintro G2875 e2876 i2872 x2873 v2877 σ' G2868 H2871 hx2874 e2879 ⟨s2862, u2863, u2864, w2869, e2870, rfl, hm2866⟩ r2878
          obtain ⟨q2867, hb2865, hm2866⟩ := forS_at hx2874 hm2866
          have h2880 := Rep.mono _ e2870 h2852
          have h2881 := Rep.mono _ e2870 h2853
          have h2882 := Rep.mono _ e2870 h2854
          have h2883 := Rep.mono _ e2870 h2855
          have h2884 := Rep.mono _ e2870 h2856
          refine g_pair (i := 8) (j := 9) r2878 w2869.ex ?_
          intro v2885 v2886 r2887 r2888
          cases r2887
          cases r2888
          unfold m__law_parting_due_b1 at hb2865
          obtain ⟨s2920, hx2921, hb2865⟩ := bindS hb2865
          refine o_cut (fun σ' H' => ∃ G' : Hp, Wo G H [] G' H' [(p2848, cM Sum.inr rI s2862.1), (p2835, cM Sum.inr rI s2920.2), (p2822, cL rS s2920.1)] ∧ Evl.Ex G2868 G' ∧ σ' = [some vmasks_here0, some vone0, some vtwo0, some (V.ref p2822), some (V.ref p2835), some (V.ref p2848), some v2790, some v2801, some (V.str x2873.1), some (V.int x2873.2), none]) ?_ ?_
          · obtain ⟨b2889, hx2925, hx2921⟩ := bindS hx2921
            refine x_if w2869 (et_T (e_op (rr_ninL flS) (e_var (R := rS) (x := x2873.1) rfl rfl) (e_var (R := (rL rS)) (x := s2862.2.1) rfl (w2869.rlAt (i := 2) rfl)))) hx2925 ?_ ?_
            · intro hbb2889 H2926 w2927
              subst hbb2889
              have hx2921 := bifT hx2921
              obtain ⟨a2928, hx2930, hx2921⟩ := bindS hx2921
              obtain ⟨keys_2929, hx2931, hx2921⟩ := bindS hx2921
              obtain ⟨hs2932, rfl⟩ := appM_ok hx2931
              refine x_app (j := 2) w2927 rfl hs2932 rfl (e_var (R := rS) (x := x2873.1) rfl rfl) hx2930 ?_
              intro H2933 G2934 w2935 e2936
              have h2937 := Rep.mono _ e2936 h2880
              have h2938 := Rep.mono _ e2936 h2881
              have h2939 := Rep.mono _ e2936 h2882
              have h2940 := Rep.mono _ e2936 h2883
              have h2941 := Rep.mono _ e2936 h2884
              have w2935 : Wo G H [] G2934 H2933 [(p2848, cM Sum.inr rI s2862.1), (p2835, cM Sum.inr rI s2862.2.2), (p2822, cL rS (s2862.2.1 ++ [a2928]))] := w2935
              obtain ⟨a2943, hx2944, hx2921⟩ := bindS hx2921
              obtain ⟨k2945, hx2947, hx2921⟩ := bindS hx2921
              obtain ⟨low_2946, hx2948, hx2921⟩ := bindS hx2921
              refine x_putM kyS injS (j := 1) w2935 rfl rfl (e_bmL (rbm_index flI) (e_var (R := (rL rI)) (x := masks_here0) rfl h2937) (ea_cons (e_cb rc_minL (ea_cons (e_var (R := (rL rI)) (x := masks_here0) rfl h2937) ea_nil)) ea_nil)) (by first | (simp only [be1, bs1, ba1] at hx2944 ⊢; exact hx2944) | exact hx2944) (e_var (R := rS) (x := x2873.1) rfl rfl) (by first | (simp only [be1, bs1, ba1] at hx2947 ⊢; exact hx2947) | exact hx2947) hx2948 ?_
              intro H2949 G2950 w2951 e2952
              have h2953 := Rep.mono _ e2952 h2937
              have h2954 := Rep.mono _ e2952 h2938
              have h2955 := Rep.mono _ e2952 h2939
              have h2956 := Rep.mono _ e2952 h2940
              have h2957 := Rep.mono _ e2952 h2941
              have w2951 : Wo G H [] G2950 H2949 [(p2848, cM Sum.inr rI s2862.1), (p2835, cM Sum.inr rI low_2946), (p2822, cL rS (s2862.2.1 ++ [a2928]))] := w2951
              refine x_next ?_
              have hx2921 : ((s2862.2.1 ++ [a2928]), low_2946) = s2920 := Option.some.inj hx2921
              subst hx2921
              exact ⟨G2950, w2951, (e2936.trans e2952), rfl⟩
            · intro hbb2889 H2958 w2959
              subst hbb2889
              have hx2921 := bifF hx2921
              refine x_next ?_
              have hx2921 : (s2862.2.1, s2862.2.2) = s2920 := Option.some.inj hx2921
              subst hx2921
              exact ⟨G2868, w2959, (Evl.Ex.refl _), rfl⟩
          · rintro σ' H2966 ⟨G2960, w2923, e2922, rfl⟩
            have h2961 := Rep.mono _ e2922 h2880
            have h2962 := Rep.mono _ e2922 h2881
            have h2963 := Rep.mono _ e2922 h2882
            have h2964 := Rep.mono _ e2922 h2883
            have h2965 := Rep.mono _ e2922 h2884
            obtain ⟨a2967, hx2968, hb2865⟩ := bindS hb2865
            obtain ⟨k2969, hx2971, hb2865⟩ := bindS hb2865
            obtain ⟨high_2970, hx2972, hb2865⟩ := bindS hb2865
            refine x_putM kyS injS (j := 0) w2923 rfl rfl (e_var (R := rI) (x := x2873.2) rfl rfl) hx2968 (e_var (R := rS) (x := x2873.1) rfl rfl) hx2971 hx2972 ?_
            intro H2973 G2974 w2975 e2976
            have h2977 := Rep.mono _ e2976 h2961
            have h2978 := Rep.mono _ e2976 h2962
            have h2979 := Rep.mono _ e2976 h2963
            have h2980 := Rep.mono _ e2976 h2964
            have h2981 := Rep.mono _ e2976 h2965
            have w2975 : Wo G H [] G2974 H2973 [(p2848, cM Sum.inr rI high_2970), (p2835, cM Sum.inr rI s2920.2), (p2822, cL rS s2920.1)] := w2975
            refine x_next ?_
            have hb2865 : (high_2970, (s2920.1, s2920.2)) = q2867 := Option.some.inj hb2865
            subst hb2865
            exact ⟨G2974, (e2879.trans (e2922.trans e2976)), (high_2970, (s2920.1, s2920.2)), (some (V.int x2873.2)), (some (V.str x2873.1)), w2975, ((e2870.trans e2922).trans e2976), rfl, hm2866⟩
        · rintro σ' G2982 H2985 e2986 ⟨s2862, u2863, u2864, w2983, e2984, rfl, hm2866⟩
          have hm2866 := forS_end hm2866
          subst hm2866
          have h2988 := Rep.mono _ e2984 h2852
          have h2989 := Rep.mono _ e2984 h2853
          have h2990 := Rep.mono _ e2984 h2854
          have h2991 := Rep.mono _ e2984 h2855
          have h2992 := Rep.mono _ e2984 h2856
          obtain ⟨G2993, w2994, e2995, h2996⟩ := w2983.freezeC fzM (i := 0) rfl n2850
          have h2997 := Rep.mono _ e2995 h2988
          have h2998 := Rep.mono _ e2995 h2989
          have h2999 := Rep.mono _ e2995 h2990
          have h3000 := Rep.mono _ e2995 h2991
          have h3001 := Rep.mono _ e2995 h2992
          have w2994 : Wo G H [] G2993 H2985 [(p2835, cM Sum.inr rI s2862.2.2), (p2822, cL rS s2862.2.1)] := w2994
          obtain ⟨G3002, w3003, e3004, h3005⟩ := w2994.freezeAt (i := 1) rfl n2824
          have h3006 := Rep.mono _ e3004 h2997
          have h3007 := Rep.mono _ e3004 h2998
          have h3008 := Rep.mono _ e3004 h2999
          have h3009 := Rep.mono _ e3004 h3000
          have h3010 := Rep.mono _ e3004 h3001
          have h3011 := Rep.mono _ e3004 h2996
          have w3003 : Wo G H [] G3002 H2985 [(p2835, cM Sum.inr rI s2862.2.2)] := w3003
          obtain ⟨G3012, w3013, e3014, h3015⟩ := w3003.freezeC fzM (i := 0) rfl n2837
          have h3016 := Rep.mono _ e3014 h3006
          have h3017 := Rep.mono _ e3014 h3007
          have h3018 := Rep.mono _ e3014 h3008
          have h3019 := Rep.mono _ e3014 h3009
          have h3020 := Rep.mono _ e3014 h3010
          have h3021 := Rep.mono _ e3014 h3005
          have h3022 := Rep.mono _ e3014 h3011
          have w3013 : Wo G H [] G3012 H2985 [] := w3013
          obtain ⟨a3023, hx3024, h⟩ := bindS h
          have h : a3023 = r := Option.some.inj h
          subst h
          exact x_ret w3013 (e_some (e_tupN (ea_cons (e_var (R := (rL rS)) (x := s2862.2.1) rfl h3021) (ea_cons (e_var (R := (rM Sum.inr rI)) (x := s2862.2.2) rfl h3015) (ea_cons (e_var (R := (rM Sum.inr rI)) (x := s2862.1) rfl h3022) (ea_cons (e_var (R := (rP (rL (rP rS rI)) rI)) (x := lower_2786) rfl h3019) (ea_cons (e_var (R := (rP (rL (rP rS rI)) rI)) (x := upper_2797) rfl h3020) ea_nil))))) (fun h => by obtain ⟨_, _, rfl, _, _, _, rfl, _, _, _, rfl, _, _, _, rfl, _, _, _, rfl, _, rfl⟩ := h; show 5 ≤ 1000; decide))) hx3024 (fun v9 H9 G9 w9 e9 r9 => k v9 H9 G9 w9.upE r9)
      · intro hbb2782 H3025 w3026
        subst hbb2782
        have h := bifF h
        obtain ⟨b3027, hx3028, h⟩ := bindS h
        refine x_if w3026 (et_B (e_call (ea_cons (e_var (R := (rL rI)) (x := masks_here0) rfl (Rep.mono _ w3026.ex hmasks_here0)) (ea_cons (e_var (R := (rP (rL (rP rS rI)) rI)) (x := two0) rfl (Rep.mono _ w3026.ex htwo0)) (ea_cons (e_var (R := (rP (rL (rP rS rI)) rI)) (x := one0) rfl (Rep.mono _ w3026.ex hone0)) ea_nil))))) (by first | (simp only [be1, bs1, ba1] at hx3028 ⊢; exact hx3028) | exact hx3028) ?_ ?_
        · intro hbb3027 H3029 w3030
          subst hbb3027
          have h := bifT h
          obtain ⟨lower_3031, hx3032, h⟩ := bindS h
          refine x_set w3030 (e_var (R := (rP (rL (rP rS rI)) rI)) (x := two0) rfl htwo0) hx3032 ?_
          intro v3035 H3033 G3036 w3034 e3037 h3038
          have h3039 := Rep.mono _ e3037 hmasks_here0
          have h3040 := Rep.mono _ e3037 hone0
          have h3041 := Rep.mono _ e3037 htwo0
          obtain ⟨upper_3042, hx3043, h⟩ := bindS h
          refine x_set w3034 (e_var (R := (rP (rL (rP rS rI)) rI)) (x := one0) rfl h3040) hx3043 ?_
          intro v3046 H3044 G3047 w3045 e3048 h3049
          have h3050 := Rep.mono _ e3048 h3039
          have h3051 := Rep.mono _ e3048 h3040
          have h3052 := Rep.mono _ e3048 h3041
          have h3053 := Rep.mono _ e3048 h3038
          refine x_next ?_
          refine x_next ?_
          obtain ⟨keys_3063, hx3064, h⟩ := bindS h
          refine x_setL w3045 (el_map (el_lcL (j := 10) (e_fst (e_var (R := (rP (rL (rP rS rI)) rI)) (x := lower_3031) rfl h3053)) (fun _ => rfl) (fun _ _ _ _ _ _ _ _ => et_yes) (fun x3057 v3060 G3058 W3059 eG3054 eW3055 eX3056 h3061 => (e_fst (e_var (R := (rP rS rI)) (x := x3057) rfl h3061))))) hx3064 ?_
          intro p3067 H3065 G3068 n3069 w3066 e3070
          have h3071 := Rep.mono _ e3070 h3050
          have h3072 := Rep.mono _ e3070 h3051
          have h3073 := Rep.mono _ e3070 h3052
          have h3074 := Rep.mono _ e3070 h3053
          have h3075 := Rep.mono _ e3070 h3049
          obtain ⟨low_3076, hx3077, h⟩ := bindS h
          refine x_setC w3066 (ec_dictL2 kyS injS (e_fst (e_var (R := (rP (rL (rP rS rI)) rI)) (x := lower_3031) rfl h3074))) hx3077 ?_
          intro p3080 H3078 G3081 n3082 w3079 e3083
          have h3084 := Rep.mono _ e3083 h3071
          have h3085 := Rep.mono _ e3083 h3072
          have h3086 := Rep.mono _ e3083 h3073
          have h3087 := Rep.mono _ e3083 h3074
          have h3088 := Rep.mono _ e3083 h3075
          obtain ⟨high_3089, hx3090, h⟩ := bindS h
          refine x_setC w3079 (ec_dictL2 kyS injS (e_fst (e_var (R := (rP (rL (rP rS rI)) rI)) (x := lower_3031) rfl h3087))) hx3090 ?_
          intro p3093 H3091 G3094 n3095 w3092 e3096
          have h3097 := Rep.mono _ e3096 h3084
          have h3098 := Rep.mono _ e3096 h3085
          have h3099 := Rep.mono _ e3096 h3086
          have h3100 := Rep.mono _ e3096 h3087
          have h3101 := Rep.mono _ e3096 h3088
          obtain ⟨xs3102, hx3103, h⟩ := bindS h
          obtain ⟨t3105, hx3106, h⟩ := bindS h
          refine x_forL w3092 (e_fst (e_var (R := (rP (rL (rP rS rI)) rI)) (x := upper_3042) rfl h3101)) hx3103 (fun i G' H' σ' => ∃ s3107 : ((List (Str × Int)) × ((List Str) × (List (Str × Int)))), ∃ u3108 : Option V, ∃ u3109 : Option V, Wo G H [] G' H' [(p3093, cM Sum.inr rI s3107.1), (p3080, cM Sum.inr rI s3107.2.2), (p3067, cL rS s3107.2.1)] ∧ Evl.Ex G3094 G' ∧ σ' = [some vmasks_here0, some vone0, some vtwo0, some (V.ref p3067), some (V.ref p3080), some (V.ref p3093), some v3035, some v3046, u3109, u3108, none] ∧ forS (m__law_parting_due_b2 masks_here0) (xs3102.drop i) s3107 = some t3105) (fun _ _ _ _ ⟨_, _, _, w, _⟩ => w.ex) ?_ ?_ ?_
          · intro G' H' w' e'
            exact ⟨(high_3089, (keys_3063, low_3076)), (none), (none), w', e', rfl, hx3106⟩
          · rintro G3120 e3121 i3117 x3118 v3122 σ' G3113 H3116 hx3119 e3124 ⟨s3107, u3108, u3109, w3114, e3115, rfl, hm3111⟩ r3123
            obtain ⟨q3112, hb3110, hm3111⟩ := forS_at hx3119 hm3111
            have h3125 := Rep.mono _ e3115 h3097
            have h3126 := Rep.mono _ e3115 h3098
            have h3127 := Rep.mono _ e3115 h3099
            have h3128 := Rep.mono _ e3115 h3100
            have h3129 := Rep.mono _ e3115 h3101
            refine g_pair (i := 8) (j := 9) r3123 w3114.ex ?_
            intro v3130 v3131 r3132 r3133
            cases r3132
            cases r3133
            unfold m__law_parting_due_b2 at hb3110
            obtain ⟨s3165, hx3166, hb3110⟩ := bindS hb3110
            refine o_cut (fun σ' H' => ∃ G' : Hp, Wo G H [] G' H' [(p3093, cM Sum.inr rI s3107.1), (p3080, cM Sum.inr rI s3165.2), (p3067, cL rS s3165.1)] ∧ Evl.Ex G3113 G' ∧ σ' = [some vmasks_here0, some vone0, some vtwo0, some (V.ref p3067), some (V.ref p3080), some (V.ref p3093), some v3035, some v3046, some (V.str x3118.1), some (V.int x3118.2), none]) ?_ ?_
            · obtain ⟨b3134, hx3170, hx3166⟩ := bindS hx3166
              refine x_if w3114 (et_T (e_op (rr_ninL flS) (e_var (R := rS) (x := x3118.1) rfl rfl) (e_var (R := (rL rS)) (x := s3107.2.1) rfl (w3114.rlAt (i := 2) rfl)))) hx3170 ?_ ?_
              · intro hbb3134 H3171 w3172
                subst hbb3134
                have hx3166 := bifT hx3166
                obtain ⟨a3173, hx3175, hx3166⟩ := bindS hx3166
                obtain ⟨keys_3174, hx3176, hx3166⟩ := bindS hx3166
                obtain ⟨hs3177, rfl⟩ := appM_ok hx3176
                refine x_app (j := 2) w3172 rfl hs3177 rfl (e_var (R := rS) (x := x3118.1) rfl rfl) hx3175 ?_
                intro H3178 G3179 w3180 e3181
                have h3182 := Rep.mono _ e3181 h3125
                have h3183 := Rep.mono _ e3181 h3126
                have h3184 := Rep.mono _ e3181 h3127
                have h3185 := Rep.mono _ e3181 h3128
                have h3186 := Rep.mono _ e3181 h3129
                have w3180 : Wo G H [] G3179 H3178 [(p3093, cM Sum.inr rI s3107.1), (p3080, cM Sum.inr rI s3107.2.2), (p3067, cL rS (s3107.2.1 ++ [a3173]))] := w3180
                obtain ⟨a3188, hx3189, hx3166⟩ := bindS hx3166
                obtain ⟨k3190, hx3192, hx3166⟩ := bindS hx3166
                obtain ⟨low_3191, hx3193, hx3166⟩ := bindS hx3166
                refine x_putM kyS injS (j := 1) w3180 rfl rfl (e_bmL (rbm_index flI) (e_var (R := (rL rI)) (x := masks_here0) rfl h3182) (ea_cons (e_cb rc_minL (ea_cons (e_var (R := (rL rI)) (x := masks_here0) rfl h3182) ea_nil)) ea_nil)) (by first | (simp only [be1, bs1, ba1] at hx3189 ⊢; exact hx3189) | exact hx3189) (e_var (R := rS) (x := x3118.1) rfl rfl) (by first | (simp only [be1, bs1, ba1] at hx3192 ⊢; exact hx3192) | exact hx3192) hx3193 ?_
                intro H3194 G3195 w3196 e3197
                have h3198 := Rep.mono _ e3197 h3182
                have h3199 := Rep.mono _ e3197 h3183
                have h3200 := Rep.mono _ e3197 h3184
                have h3201 := Rep.mono _ e3197 h3185
                have h3202 := Rep.mono _ e3197 h3186
                have w3196 : Wo G H [] G3195 H3194 [(p3093, cM Sum.inr rI s3107.1), (p3080, cM Sum.inr rI low_3191), (p3067, cL rS (s3107.2.1 ++ [a3173]))] := w3196
                refine x_next ?_
                have hx3166 : ((s3107.2.1 ++ [a3173]), low_3191) = s3165 := Option.some.inj hx3166
                subst hx3166
                exact ⟨G3195, w3196, (e3181.trans e3197), rfl⟩
              · intro hbb3134 H3203 w3204
                subst hbb3134
                have hx3166 := bifF hx3166
                refine x_next ?_
                have hx3166 : (s3107.2.1, s3107.2.2) = s3165 := Option.some.inj hx3166
                subst hx3166
                exact ⟨G3113, w3204, (Evl.Ex.refl _), rfl⟩
            · rintro σ' H3211 ⟨G3205, w3168, e3167, rfl⟩
              have h3206 := Rep.mono _ e3167 h3125
              have h3207 := Rep.mono _ e3167 h3126
              have h3208 := Rep.mono _ e3167 h3127
              have h3209 := Rep.mono _ e3167 h3128
              have h3210 := Rep.mono _ e3167 h3129
              obtain ⟨a3212, hx3213, hb3110⟩ := bindS hb3110
              obtain ⟨k3214, hx3216, hb3110⟩ := bindS hb3110
              obtain ⟨high_3215, hx3217, hb3110⟩ := bindS hb3110
              refine x_putM kyS injS (j := 0) w3168 rfl rfl (e_var (R := rI) (x := x3118.2) rfl rfl) hx3213 (e_var (R := rS) (x := x3118.1) rfl rfl) hx3216 hx3217 ?_
              intro H3218 G3219 w3220 e3221
              have h3222 := Rep.mono _ e3221 h3206
              have h3223 := Rep.mono _ e3221 h3207
              have h3224 := Rep.mono _ e3221 h3208
              have h3225 := Rep.mono _ e3221 h3209
              have h3226 := Rep.mono _ e3221 h3210
              have w3220 : Wo G H [] G3219 H3218 [(p3093, cM Sum.inr rI high_3215), (p3080, cM Sum.inr rI s3165.2), (p3067, cL rS s3165.1)] := w3220
              refine x_next ?_
              have hb3110 : (high_3215, (s3165.1, s3165.2)) = q3112 := Option.some.inj hb3110
              subst hb3110
              exact ⟨G3219, (e3124.trans (e3167.trans e3221)), (high_3215, (s3165.1, s3165.2)), (some (V.int x3118.2)), (some (V.str x3118.1)), w3220, ((e3115.trans e3167).trans e3221), rfl, hm3111⟩
          · rintro σ' G3227 H3230 e3231 ⟨s3107, u3108, u3109, w3228, e3229, rfl, hm3111⟩
            have hm3111 := forS_end hm3111
            subst hm3111
            have h3233 := Rep.mono _ e3229 h3097
            have h3234 := Rep.mono _ e3229 h3098
            have h3235 := Rep.mono _ e3229 h3099
            have h3236 := Rep.mono _ e3229 h3100
            have h3237 := Rep.mono _ e3229 h3101
            obtain ⟨G3238, w3239, e3240, h3241⟩ := w3228.freezeC fzM (i := 0) rfl n3095
            have h3242 := Rep.mono _ e3240 h3233
            have h3243 := Rep.mono _ e3240 h3234
            have h3244 := Rep.mono _ e3240 h3235
            have h3245 := Rep.mono _ e3240 h3236
            have h3246 := Rep.mono _ e3240 h3237
            have w3239 : Wo G H [] G3238 H3230 [(p3080, cM Sum.inr rI s3107.2.2), (p3067, cL rS s3107.2.1)] := w3239
            obtain ⟨G3247, w3248, e3249, h3250⟩ := w3239.freezeAt (i := 1) rfl n3069
            have h3251 := Rep.mono _ e3249 h3242
            have h3252 := Rep.mono _ e3249 h3243
            have h3253 := Rep.mono _ e3249 h3244
            have h3254 := Rep.mono _ e3249 h3245
            have h3255 := Rep.mono _ e3249 h3246
            have h3256 := Rep.mono _ e3249 h3241
            have w3248 : Wo G H [] G3247 H3230 [(p3080, cM Sum.inr rI s3107.2.2)] := w3248
            obtain ⟨G3257, w3258, e3259, h3260⟩ := w3248.freezeC fzM (i := 0) rfl n3082
            have h3261 := Rep.mono _ e3259 h3251
            have h3262 := Rep.mono _ e3259 h3252
            have h3263 := Rep.mono _ e3259 h3253
            have h3264 := Rep.mono _ e3259 h3254
            have h3265 := Rep.mono _ e3259 h3255
            have h3266 := Rep.mono _ e3259 h3250
            have h3267 := Rep.mono _ e3259 h3256
            have w3258 : Wo G H [] G3257 H3230 [] := w3258
            obtain ⟨a3268, hx3269, h⟩ := bindS h
            have h : a3268 = r := Option.some.inj h
            subst h
            exact x_ret w3258 (e_some (e_tupN (ea_cons (e_var (R := (rL rS)) (x := s3107.2.1) rfl h3266) (ea_cons (e_var (R := (rM Sum.inr rI)) (x := s3107.2.2) rfl h3260) (ea_cons (e_var (R := (rM Sum.inr rI)) (x := s3107.1) rfl h3267) (ea_cons (e_var (R := (rP (rL (rP rS rI)) rI)) (x := lower_3031) rfl h3264) (ea_cons (e_var (R := (rP (rL (rP rS rI)) rI)) (x := upper_3042) rfl h3265) ea_nil))))) (fun h => by obtain ⟨_, _, rfl, _, _, _, rfl, _, _, _, rfl, _, _, _, rfl, _, _, _, rfl, _, rfl⟩ := h; show 5 ≤ 1000; decide))) hx3269 (fun v9 H9 G9 w9 e9 r9 => k v9 H9 G9 w9.upE r9)
        · intro hbb3027 H3270 w3271
          subst hbb3027
          have h := bifF h
          obtain ⟨a3272, hx3273, h⟩ := bindS h
          have h : a3272 = r := Option.some.inj h
          subst h
          exact x_ret w3271 (e_none (R := (rTup (aC (rL rS) (aC (rM Sum.inr rI) (aC (rM Sum.inr rI) (aC (rP (rL (rP rS rI)) rI) (aC (rP (rL (rP rS rI)) rI) aN)))))))) hx3273 (fun v9 H9 G9 w9 e9 r9 => k v9 H9 G9 w9.upE r9)
def m__law_shown_b1 (told0 : ((List (Str × Int)) × (List (Str × Int)))) (due0 : ((List Str) × (List (Str × Int)) × (List (Str × Int)) × ((List (Str × Int)) × Int) × ((List (Str × Int)) × Int) × Unit)) (masks_here0 : (List Int)) (x3307 : Str) (s3295 : Unit) : Option (Stp Unit Bool) :=
  (lookM told0.1 x3307 >>= fun low_3317 => (lookM told0.2 x3307 >>= fun high_3321 => ((orO ((m__law_int low_3317 >>= fun t3325 => some (!t3325))) ((orO ((m__law_int high_3321 >>= fun t3326 => some (!t3326))) ((orO ((lookM due0.2.1 x3307 >>= fun t3327 => some (!(low_3317 == t3327)))) ((lookM due0.2.2.1 x3307 >>= fun t3328 => some (!(high_3321 == t3328))))))))) >>= fun b3329 => bif b3329 then (some false >>= fun a3333 => some (Stp.rt a3333)) else ((m__law_under masks_here0 low_3317 high_3321 >>= fun t3337 => some (!t3337)) >>= fun b3338 => bif b3338 then (some false >>= fun a3342 => some (Stp.rt a3342)) else some (Stp.nx ())))))
def m__law_shown_b2 (told0 : ((List (Str × Int)) × (List (Str × Int)))) (x3371 : (Str × Int)) (s3360 : Unit) : Option (Stp Unit Bool) :=
  ((lookM told0.1 x3371.1 >>= fun t3385 => some (!(t3385 == x3371.2))) >>= fun b3386 => bif b3386 then (some false >>= fun a3390 => some (Stp.rt a3390)) else some (Stp.nx ()))
def m__law_shown_b3 (told0 : ((List (Str × Int)) × (List (Str × Int)))) (x3419 : (Str × Int)) (s3408 : Unit) : Option (Stp Unit Bool) :=
  ((lookM told0.2 x3419.1 >>= fun t3433 => some (!(t3433 == x3419.2))) >>= fun b3434 => bif b3434 then (some false >>= fun a3438 => some (Stp.rt a3438)) else some (Stp.nx ()))
def m__law_shown (masks_here0 : (List Int)) (told0 : ((List (Str × Int)) × (List (Str × Int)))) (due0 : ((List Str) × (List (Str × Int)) × (List (Str × Int)) × ((List (Str × Int)) × Int) × ((List (Str × Int)) × Int) × Unit)) : Option Bool :=
  (some ((!true) || ((!((2 : Int) == (2 : Int))) || ((!true) || (!true)))) >>= fun b3274 => bif b3274 then (some false >>= fun a3278 => some a3278) else (some ((!decide ((List.map (·.1) told0.1) = due0.1)) || (!decide ((List.map (·.1) told0.2) = due0.1))) >>= fun b3282 => bif b3282 then (some false >>= fun a3286 => some a3286) else (some due0.1 >>= fun xs3290 => forL (m__law_shown_b1 told0 due0 masks_here0) xs3290 () >>= Sum.elim (fun s3295 => (some due0.2.2.2.1.1 >>= fun xs3355 => forL (m__law_shown_b2 told0) xs3355 () >>= Sum.elim (fun s3360 => (some due0.2.2.2.2.1.1 >>= fun xs3403 => forL (m__law_shown_b3 told0) xs3403 () >>= Sum.elim (fun s3408 => ((m__law_under masks_here0 due0.2.2.2.1.2 due0.2.2.2.2.1.2 >>= fun t3451 => some (!t3451)) >>= fun a3452 => some a3452)) (fun r => some r))) (fun r => some r))) (fun r => some r))))
theorem sc__law_shown : FnScope ["_law_masks_here", "_law_told", "_law_due", "_law_name", "_law_low", "_law_high", "_law_answer"] ["_law_masks_here", "_law_told", "_law_due"] (defScope s__law_shown) := ⟨rfl, rfl, rfl, by decide +kernel, rfl, by decide +kernel, by decide +kernel⟩
theorem ok__law_shown (T : Tx K mg) : Fk P w K mg base CX0 2 "_law_shown" ["_law_masks_here", "_law_told", "_law_due"] (PF (aC (rL rI) (aC (rP (rM Sum.inr rI) (rM Sum.inr rI)) (aC (rTup (aC (rL rS) (aC (rM Sum.inr rI) (aC (rM Sum.inr rI) (aC (rP (rL (rP rS rI)) rI) (aC (rP (rL (rP rS rI)) rI) aN)))))) aN))) rB (fun i => m__law_shown i.1 i.2.1 i.2.2.1)) := by
  obtain ⟨fd__law_int, G__law_int, b__law_int, k__law_int, g__law_int⟩ := ok__law_int (w := w) (base := base) T
  obtain ⟨fd__law_under, G__law_under, b__law_under, k__law_under, g__law_under⟩ := ok__law_under (w := w) (base := base) T
  obtain ⟨fd, F⟩ := T.def_ 30 rfl
  have nd := sc__law_shown.nd
  refine fk_mk T.toTx (x := "_law_shown") (T.glo 35 rfl) F (fun _ _ _ _ _ _ us hl => match us, hl with | [_, _, _], _ => rfl) (F.ok sc__law_shown (fun vs H Q E h => ?_) (fun cdv A outer s H vs Q E hr h => ?_))
  · obtain ⟨G, ⟨masks_here0, told0, due0, ⟨⟩⟩, r, e0, ⟨vmasks_here0, _, rfl, hmasks_here0, vtold0, _, rfl, htold0, vdue0, _, rfl, hdue0, rfl⟩, h, k⟩ := h
    rfl
  · obtain ⟨G, ⟨masks_here0, told0, due0, ⟨⟩⟩, r, e0, ⟨vmasks_here0, _, rfl, hmasks_here0, vtold0, _, rfl, htold0, vdue0, _, rfl, hdue0, rfl⟩, h, k⟩ := h
    have w0 := Wo.start e0
    have h : m__law_shown masks_here0 told0 due0 = some r := h
    unfold m__law_shown at h
    refine ⟨_, PSs.nox (pss_cons (ps_if (PW.pt (pw_or (pt_not (pt_val (pe_callB (r := rIsi K) call_isi (by rfl) (fr_isinstance T) (by decide +kernel) (pa_cons (pv 1) (pa_cons (pe_bltn (v := .ty "tuple") (by rfl) (fr_tuple T) (by decide +kernel) rfl) pa_nil))))) (pw_or (pt_cmpR op_ne (pe_callB (r := rLn K) call_len_seq (by rfl) (fr_len T) (by decide +kernel) (pa_cons (pv 1) pa_nil)) pe_int (nomark _)) (pw_or (pt_not (pt_val (pe_callB (r := rIsi K) call_isi (by rfl) (fr_isinstance T) (by decide +kernel) (pa_cons (pe_ix (r := rIxT K) ix_tup (pv 1) pe_int (fun _ _ => rfl)) (pa_cons (pe_bltn (v := .ty "dict") (by rfl) (fr_dict T) (by decide +kernel) rfl) pa_nil))))) (pw_or1 (pt_not (pt_val (pe_callB (r := rIsi K) call_isi (by rfl) (fr_isinstance T) (by decide +kernel) (pa_cons (pe_ix (r := rIxT K) ix_tup (pv 1) pe_int (fun _ _ => rfl)) (pa_cons (pe_bltn (v := .ty "dict") (by rfl) (fr_dict T) (by decide +kernel) rfl) pa_nil)))))))))) (pss_cons (ps_ret pe_bl) pss_nil) pss_nil) (pss_cons (ps_if (PW.pt (pw_or (pt_cmpR (r := rNeP K) (op_neP hr.units) (pe_callTy (r := rLsD) (call_listD (by rfl)) (by rfl) (fr_list T) (by decide +kernel) (pa_cons (pe_ix (r := rIxT K) ix_tup (pv 1) pe_int (fun _ _ => rfl)) pa_nil)) (pe_ix (r := rIxT K) ix_tup (pv 2) pe_int (fun _ _ => rfl)) (nomark _)) (pw_or1 (pt_cmpR (r := rNeP K) (op_neP hr.units) (pe_callTy (r := rLsD) (call_listD (by rfl)) (by rfl) (fr_list T) (by decide +kernel) (pa_cons (pe_ix (r := rIxT K) ix_tup (pv 1) pe_int (fun _ _ => rfl)) pa_nil)) (pe_ix (r := rIxT K) ix_tup (pv 2) pe_int (fun _ _ => rfl)) (nomark _))))) (pss_cons (ps_ret pe_bl) pss_nil) pss_nil) (pss_cons (ps_for PassesOwn.never rfl (pi_list (pe_ix (r := rIxT K) ix_tup (pv 2) pe_int (fun _ _ => rfl))) (pg_name (i := 3) nd rfl (Or.inl rfl)) (pss_cons (ps_set (i := 4) nd rfl (Or.inl rfl) (pe_dget (hu_of hr) (pe_ix (r := rIxT K) ix_tup (pv 1) pe_int (fun _ _ => rfl)) (pv 3) (fun _ _ => rfl))) (pss_cons (ps_set (i := 5) nd rfl (Or.inl rfl) (pe_dget (hu_of hr) (pe_ix (r := rIxT K) ix_tup (pv 1) pe_int (fun _ _ => rfl)) (pv 3) (fun _ _ => rfl))) (pss_cons (ps_if (PW.pt (pw_or (pt_not (pt_val (pe_call G__law_int (hr.mono (by decide)) rfl g__law_int k__law_int b__law_int .nil pass0 (pa_cons (pv 4) pa_nil)))) (pw_or (pt_not (pt_val (pe_call G__law_int (hr.mono (by decide)) rfl g__law_int k__law_int b__law_int .nil pass0 (pa_cons (pv 5) pa_nil)))) (pw_or (pt_cmpR op_ne (pv 4) (pe_dget (hu_of hr) (pe_ix (r := rIxT K) ix_tup (pv 2) pe_int (fun _ _ => rfl)) (pv 3) (fun _ _ => rfl)) (nomark _)) (pw_or1 (pt_cmpR op_ne (pv 5) (pe_dget (hu_of hr) (pe_ix (r := rIxT K) ix_tup (pv 2) pe_int (fun _ _ => rfl)) (pv 3) (fun _ _ => rfl)) (nomark _))))))) (pss_cons (ps_ret pe_bl) pss_nil) pss_nil) (pss_cons (ps_if (pt_not (pt_val (pe_call G__law_under (hr.mono (by decide)) rfl g__law_under k__law_under b__law_under .nil pass0 (pa_cons (pv 0) (pa_cons (pv 4) (pa_cons (pv 5) pa_nil)))))) (pss_cons (ps_ret pe_bl) pss_nil) pss_nil) pss_nil))))) (pss_cons (ps_for PassesOwn.never rfl (pi_list (pe_ix (r := rIxT K) ix_tup (pe_ix (r := rIxT K) ix_tup (pv 2) pe_int (fun _ _ => rfl)) pe_int (fun _ _ => rfl))) (pg_tup (by rfl) (pgs_cons (pg_name (i := 3) nd rfl (by first | exact Or.inl rfl | exact Or.inr rfl)) (pgs_cons (pg_name (i := 6) nd rfl (by first | exact Or.inl rfl | exact Or.inr rfl)) pgs_nil))) (pss_cons (ps_if (pt_cmpR op_ne (pe_dget (hu_of hr) (pe_ix (r := rIxT K) ix_tup (pv 1) pe_int (fun _ _ => rfl)) (pv 3) (fun _ _ => rfl)) (pv 6) (nomark _)) (pss_cons (ps_ret pe_bl) pss_nil) pss_nil) pss_nil)) (pss_cons (ps_for PassesOwn.never rfl (pi_list (pe_ix (r := rIxT K) ix_tup (pe_ix (r := rIxT K) ix_tup (pv 2) pe_int (fun _ _ => rfl)) pe_int (fun _ _ => rfl))) (pg_tup (by rfl) (pgs_cons (pg_name (i := 3) nd rfl (by first | exact Or.inl rfl | exact Or.inr rfl)) (pgs_cons (pg_name (i := 6) nd rfl (by first | exact Or.inl rfl | exact Or.inr rfl)) pgs_nil))) (pss_cons (ps_if (pt_cmpR op_ne (pe_dget (hu_of hr) (pe_ix (r := rIxT K) ix_tup (pv 1) pe_int (fun _ _ => rfl)) (pv 3) (fun _ _ => rfl)) (pv 6) (nomark _)) (pss_cons (ps_ret pe_bl) pss_nil) pss_nil) pss_nil)) (pss_cons (ps_ret (pe_not (pe_call G__law_under (hr.mono (by decide)) rfl g__law_under k__law_under b__law_under .nil pass0 (pa_cons (pv 0) (pa_cons (pe_ix (r := rIxT K) ix_tup (pe_ix (r := rIxT K) ix_tup (pv 2) pe_int (fun _ _ => rfl)) pe_int (fun _ _ => rfl)) (pa_cons (pe_ix (r := rIxT K) ix_tup (pe_ix (r := rIxT K) ix_tup (pv 2) pe_int (fun _ _ => rfl)) pe_int (fun _ _ => rfl)) pa_nil)))))) pss_nil)))))), ?_⟩
    obtain ⟨b3274, hx3275, h⟩ := bindS h
    refine x_if w0 (et_orP (et_not (et_B (e_isi (e_var (R := (rP (rM Sum.inr rI) (rM Sum.inr rI))) (x := told0) rfl (Rep.mono _ w0.ex htold0)) ktP (n := "tuple") (c := "tuple") (b := true) (by decide +kernel)))) (et_orP (et_T (e_op rr_neI (e_cb rc_lenP (ea_cons (e_var (R := (rP (rM Sum.inr rI) (rM Sum.inr rI))) (x := told0) rfl (Rep.mono _ w0.ex htold0)) ea_nil)) e_int)) (et_orP (et_not (et_B (e_isi (e_fst (e_var (R := (rP (rM Sum.inr rI) (rM Sum.inr rI))) (x := told0) rfl (Rep.mono _ w0.ex htold0))) ktM (n := "dict") (c := "dict") (b := true) (by decide +kernel)))) (et_not (et_B (e_isi (e_snd (e_var (R := (rP (rM Sum.inr rI) (rM Sum.inr rI))) (x := told0) rfl (Rep.mono _ w0.ex htold0))) ktM (n := "dict") (c := "dict") (b := true) (by decide +kernel))))))) hx3275 ?_ ?_
    · intro hbb3274 H3276 w3277
      subst hbb3274
      have h := bifT h
      obtain ⟨a3278, hx3279, h⟩ := bindS h
      have h : a3278 = r := Option.some.inj h
      subst h
      exact x_ret w3277 e_bl hx3279 (fun v9 H9 G9 w9 e9 r9 => k v9 H9 G9 w9.upE r9)
    · intro hbb3274 H3280 w3281
      subst hbb3274
      have h := bifF h
      refine x_next ?_
      obtain ⟨b3282, hx3283, h⟩ := bindS h
      refine x_if w3281 (et_orP (et_T (e_op (rr_neD (dtL dtS) (by decide)) (EL.e (el_cb (rc_listM kyrS) (ea_cons (e_fst (e_var (R := (rP (rM Sum.inr rI) (rM Sum.inr rI))) (x := told0) rfl (Rep.mono _ w3281.ex htold0))) ea_nil))) (e_prj (k := 0) (pr := fun i => i.1) (e_var (R := (rTup (aC (rL rS) (aC (rM Sum.inr rI) (aC (rM Sum.inr rI) (aC (rP (rL (rP rS rI)) rI) (aC (rP (rL (rP rS rI)) rI) aN))))))) (x := due0) rfl (Rep.mono _ w3281.ex hdue0)) (fun h => by obtain ⟨v0, _, rfl, h0, v1, _, rfl, h1, v2, _, rfl, h2, v3, _, rfl, h3, v4, _, rfl, h4, rfl⟩ := h; exact ⟨_, rfl, h0⟩)))) (et_T (e_op (rr_neD (dtL dtS) (by decide)) (EL.e (el_cb (rc_listM kyrS) (ea_cons (e_snd (e_var (R := (rP (rM Sum.inr rI) (rM Sum.inr rI))) (x := told0) rfl (Rep.mono _ w3281.ex htold0))) ea_nil))) (e_prj (k := 0) (pr := fun i => i.1) (e_var (R := (rTup (aC (rL rS) (aC (rM Sum.inr rI) (aC (rM Sum.inr rI) (aC (rP (rL (rP rS rI)) rI) (aC (rP (rL (rP rS rI)) rI) aN))))))) (x := due0) rfl (Rep.mono _ w3281.ex hdue0)) (fun h => by obtain ⟨v0, _, rfl, h0, v1, _, rfl, h1, v2, _, rfl, h2, v3, _, rfl, h3, v4, _, rfl, h4, rfl⟩ := h; exact ⟨_, rfl, h0⟩))))) (by first | (simp only [be1, bs1, ba1] at hx3283 ⊢; exact hx3283) | exact hx3283) ?_ ?_
      · intro hbb3282 H3284 w3285
        subst hbb3282
        have h := bifT h
        obtain ⟨a3286, hx3287, h⟩ := bindS h
        have h : a3286 = r := Option.some.inj h
        subst h
        exact x_ret w3285 e_bl hx3287 (fun v9 H9 G9 w9 e9 r9 => k v9 H9 G9 w9.upE r9)
      · intro hbb3282 H3288 w3289
        subst hbb3282
        have h := bifF h
        refine x_next ?_
        obtain ⟨xs3290, hx3291, h⟩ := bindS h
        obtain ⟨t3293, hx3294, h⟩ := bindS h
        refine x_forL w3289 (e_prj (k := 0) (pr := fun i => i.1) (e_var (R := (rTup (aC (rL rS) (aC (rM Sum.inr rI) (aC (rM Sum.inr rI) (aC (rP (rL (rP rS rI)) rI) (aC (rP (rL (rP rS rI)) rI) aN))))))) (x := due0) rfl hdue0) (fun h => by obtain ⟨v0, _, rfl, h0, v1, _, rfl, h1, v2, _, rfl, h2, v3, _, rfl, h3, v4, _, rfl, h4, rfl⟩ := h; exact ⟨_, rfl, h0⟩)) (by first | (simp only [be1, bs1, ba1] at hx3291 ⊢; exact hx3291) | exact hx3291) (fun i G' H' σ' => ∃ s3295 : Unit, ∃ u3296 : Option V, ∃ u3297 : Option V, ∃ u3298 : Option V, Wo G H [] G' H' [] ∧ Evl.Ex G G' ∧ σ' = [some vmasks_here0, some vtold0, some vdue0, u3298, u3297, u3296, none] ∧ forL (m__law_shown_b1 told0 due0 masks_here0) (xs3290.drop i) s3295 = some t3293) (fun _ _ _ _ ⟨_, _, _, _, w, _⟩ => w.ex) ?_ ?_ ?_
        · intro G' H' w' e'
          exact ⟨(), (none), (none), (none), w', e', rfl, hx3294⟩
        · rintro G3309 e3310 i3306 x3307 v3311 σ' G3302 H3305 hx3308 e3313 ⟨s3295, u3296, u3297, u3298, w3303, e3304, rfl, hm3300⟩ r3312
          obtain ⟨q3301, hb3299, hm3300⟩ := forL_at hx3308 hm3300
          have h3314 := Rep.mono _ e3304 hmasks_here0
          have h3315 := Rep.mono _ e3304 htold0
          have h3316 := Rep.mono _ e3304 hdue0
          refine g_name ?_
          cases r3312
          unfold m__law_shown_b1 at hb3299
          obtain ⟨low_3317, hx3318, hb3299⟩ := bindS hb3299
          refine x_setI w3303 (e_dget kyS injS (e_fst (e_var (R := (rP (rM Sum.inr rI) (rM Sum.inr rI))) (x := told0) rfl h3315)) (e_var (R := rS) (x := x3307) rfl rfl)) (by first | (simp only [be1, bs1, ba1] at hx3318 ⊢; exact hx3318) | exact hx3318) ?_
          intro H3319 w3320
          obtain ⟨high_3321, hx3322, hb3299⟩ := bindS hb3299
          refine x_setI w3320 (e_dget kyS injS (e_snd (e_var (R := (rP (rM Sum.inr rI) (rM Sum.inr rI))) (x := told0) rfl h3315)) (e_var (R := rS) (x := x3307) rfl rfl)) (by first | (simp only [be1, bs1, ba1] at hx3322 ⊢; exact hx3322) | exact hx3322) ?_
          intro H3323 w3324
          obtain ⟨b3329, hx3330, hb3299⟩ := bindS hb3299
          refine x_if w3324 (et_or (et_not (et_B (e_call (ea_cons (e_var (R := rI) (x := low_3317) rfl rfl) ea_nil)))) (et_or (et_not (et_B (e_call (ea_cons (e_var (R := rI) (x := high_3321) rfl rfl) ea_nil)))) (et_or (et_T (e_op rr_neI (e_var (R := rI) (x := low_3317) rfl rfl) (e_dget kyS injS (e_prj (k := 1) (pr := fun i => i.2.1) (e_var (R := (rTup (aC (rL rS) (aC (rM Sum.inr rI) (aC (rM Sum.inr rI) (aC (rP (rL (rP rS rI)) rI) (aC (rP (rL (rP rS rI)) rI) aN))))))) (x := due0) rfl (Rep.mono _ w3324.ex h3316)) (fun h => by obtain ⟨v0, _, rfl, h0, v1, _, rfl, h1, v2, _, rfl, h2, v3, _, rfl, h3, v4, _, rfl, h4, rfl⟩ := h; exact ⟨_, rfl, h1⟩)) (e_var (R := rS) (x := x3307) rfl rfl)))) (et_T (e_op rr_neI (e_var (R := rI) (x := high_3321) rfl rfl) (e_dget kyS injS (e_prj (k := 2) (pr := fun i => i.2.2.1) (e_var (R := (rTup (aC (rL rS) (aC (rM Sum.inr rI) (aC (rM Sum.inr rI) (aC (rP (rL (rP rS rI)) rI) (aC (rP (rL (rP rS rI)) rI) aN))))))) (x := due0) rfl (Rep.mono _ w3324.ex h3316)) (fun h => by obtain ⟨v0, _, rfl, h0, v1, _, rfl, h1, v2, _, rfl, h2, v3, _, rfl, h3, v4, _, rfl, h4, rfl⟩ := h; exact ⟨_, rfl, h2⟩)) (e_var (R := rS) (x := x3307) rfl rfl))))))) (by first | (simp only [be1, bs1, ba1] at hx3330 ⊢; exact hx3330) | exact hx3330) ?_ ?_
          · intro hbb3329 H3331 w3332
            subst hbb3329
            have hb3299 := bifT hb3299
            obtain ⟨a3333, hx3334, hb3299⟩ := bindS hb3299
            have hb3299 : some (Stp.rt a3333) = some q3301 := hb3299
            cases hb3299
            have hm3300 : some (Sum.inr a3333) = some t3293 := hm3300
            cases hm3300
            have h : a3333 = r := Option.some.inj h
            subst h
            exact x_ret w3332 e_bl hx3334 (fun v9 H9 G9 w9 e9 r9 => k v9 H9 G9 w9.upE r9)
          · intro hbb3329 H3335 w3336
            subst hbb3329
            have hb3299 := bifF hb3299
            refine x_next ?_
            obtain ⟨b3338, hx3339, hb3299⟩ := bindS hb3299
            refine x_if w3336 (et_not (et_B (e_call (ea_cons (e_var (R := (rL rI)) (x := masks_here0) rfl (Rep.mono _ w3336.ex h3314)) (ea_cons (e_var (R := rI) (x := low_3317) rfl rfl) (ea_cons (e_var (R := rI) (x := high_3321) rfl rfl) ea_nil)))))) (by first | (simp only [be1, bs1, ba1] at hx3339 ⊢; exact hx3339) | exact hx3339) ?_ ?_
            · intro hbb3338 H3340 w3341
              subst hbb3338
              have hb3299 := bifT hb3299
              obtain ⟨a3342, hx3343, hb3299⟩ := bindS hb3299
              have hb3299 : some (Stp.rt a3342) = some q3301 := hb3299
              cases hb3299
              have hm3300 : some (Sum.inr a3342) = some t3293 := hm3300
              cases hm3300
              have h : a3342 = r := Option.some.inj h
              subst h
              exact x_ret w3341 e_bl hx3343 (fun v9 H9 G9 w9 e9 r9 => k v9 H9 G9 w9.upE r9)
            · intro hbb3338 H3344 w3345
              subst hbb3338
              have hb3299 := bifF hb3299
              refine x_next ?_
              refine x_next ?_
              have hb3299 : Stp.nx () = q3301 := Option.some.inj hb3299
              subst hb3299
              exact ⟨G3302, (e3313.trans (Evl.Ex.refl _)), (), (some (V.int high_3321)), (some (V.int low_3317)), (some (V.str x3307)), w3345, e3304, rfl, hm3300⟩
        · rintro σ' G3346 H3349 e3350 ⟨s3295, u3296, u3297, u3298, w3347, e3348, rfl, hm3300⟩
          have hm3300 := forL_end hm3300
          subst hm3300
          have h := elimL h
          have h3352 := Rep.mono _ e3348 hmasks_here0
          have h3353 := Rep.mono _ e3348 htold0
          have h3354 := Rep.mono _ e3348 hdue0
          obtain ⟨xs3355, hx3356, h⟩ := bindS h
          obtain ⟨t3358, hx3359, h⟩ := bindS h
          refine x_forL w3347 (e_fst (e_prj (k := 3) (pr := fun i => i.2.2.2.1) (e_var (R := (rTup (aC (rL rS) (aC (rM Sum.inr rI) (aC (rM Sum.inr rI) (aC (rP (rL (rP rS rI)) rI) (aC (rP (rL (rP rS rI)) rI) aN))))))) (x := due0) rfl h3354) (fun h => by obtain ⟨v0, _, rfl, h0, v1, _, rfl, h1, v2, _, rfl, h2, v3, _, rfl, h3, v4, _, rfl, h4, rfl⟩ := h; exact ⟨_, rfl, h3⟩))) (by first | (simp only [be1, bs1, ba1] at hx3356 ⊢; exact hx3356) | exact hx3356) (fun i G' H' σ' => ∃ s3360 : Unit, ∃ u3361 : Option V, ∃ u3362 : Option V, Wo G H [] G' H' [] ∧ Evl.Ex G3346 G' ∧ σ' = [some vmasks_here0, some vtold0, some vdue0, u3362, u3297, u3296, u3361] ∧ forL (m__law_shown_b2 told0) (xs3355.drop i) s3360 = some t3358) (fun _ _ _ _ ⟨_, _, _, w, _⟩ => w.ex) ?_ ?_ ?_
          · intro G' H' w' e'
            exact ⟨(), (none), (u3298), w', e', rfl, hx3359⟩
          · rintro G3373 e3374 i3370 x3371 v3375 σ' G3366 H3369 hx3372 e3377 ⟨s3360, u3361, u3362, w3367, e3368, rfl, hm3364⟩ r3376
            obtain ⟨q3365, hb3363, hm3364⟩ := forL_at hx3372 hm3364
            have h3378 := Rep.mono _ e3368 h3352
            have h3379 := Rep.mono _ e3368 h3353
            have h3380 := Rep.mono _ e3368 h3354
            refine g_pair (i := 3) (j := 6) r3376 w3367.ex ?_
            intro v3381 v3382 r3383 r3384
            cases r3383
            cases r3384
            unfold m__law_shown_b2 at hb3363
            obtain ⟨b3386, hx3387, hb3363⟩ := bindS hb3363
            refine x_if w3367 (et_T (e_op rr_neI (e_dget kyS injS (e_fst (e_var (R := (rP (rM Sum.inr rI) (rM Sum.inr rI))) (x := told0) rfl (Rep.mono _ w3367.ex h3379))) (e_var (R := rS) (x := x3371.1) rfl rfl)) (e_var (R := rI) (x := x3371.2) rfl rfl))) (by first | (simp only [be1, bs1, ba1] at hx3387 ⊢; exact hx3387) | exact hx3387) ?_ ?_
            · intro hbb3386 H3388 w3389
              subst hbb3386
              have hb3363 := bifT hb3363
              obtain ⟨a3390, hx3391, hb3363⟩ := bindS hb3363
              have hb3363 : some (Stp.rt a3390) = some q3365 := hb3363
              cases hb3363
              have hm3364 : some (Sum.inr a3390) = some t3358 := hm3364
              cases hm3364
              have h : a3390 = r := Option.some.inj h
              subst h
              exact x_ret w3389 e_bl hx3391 (fun v9 H9 G9 w9 e9 r9 => k v9 H9 G9 w9.upE r9)
            · intro hbb3386 H3392 w3393
              subst hbb3386
              have hb3363 := bifF hb3363
              refine x_next ?_
              refine x_next ?_
              have hb3363 : Stp.nx () = q3365 := Option.some.inj hb3363
              subst hb3363
              exact ⟨G3366, (e3377.trans (Evl.Ex.refl _)), (), (some (V.int x3371.2)), (some (V.str x3371.1)), w3393, e3368, rfl, hm3364⟩
          · rintro σ' G3394 H3397 e3398 ⟨s3360, u3361, u3362, w3395, e3396, rfl, hm3364⟩
            have hm3364 := forL_end hm3364
            subst hm3364
            have h := elimL h
            have h3400 := Rep.mono _ e3396 h3352
            have h3401 := Rep.mono _ e3396 h3353
            have h3402 := Rep.mono _ e3396 h3354
            obtain ⟨xs3403, hx3404, h⟩ := bindS h
            obtain ⟨t3406, hx3407, h⟩ := bindS h
            refine x_forL w3395 (e_fst (e_prj (k := 4) (pr := fun i => i.2.2.2.2.1) (e_var (R := (rTup (aC (rL rS) (aC (rM Sum.inr rI) (aC (rM Sum.inr rI) (aC (rP (rL (rP rS rI)) rI) (aC (rP (rL (rP rS rI)) rI) aN))))))) (x := due0) rfl h3402) (fun h => by obtain ⟨v0, _, rfl, h0, v1, _, rfl, h1, v2, _, rfl, h2, v3, _, rfl, h3, v4, _, rfl, h4, rfl⟩ := h; exact ⟨_, rfl, h4⟩))) (by first | (simp only [be1, bs1, ba1] at hx3404 ⊢; exact hx3404) | exact hx3404) (fun i G' H' σ' => ∃ s3408 : Unit, ∃ u3409 : Option V, ∃ u3410 : Option V, Wo G H [] G' H' [] ∧ Evl.Ex G3394 G' ∧ σ' = [some vmasks_here0, some vtold0, some vdue0, u3410, u3297, u3296, u3409] ∧ forL (m__law_shown_b3 told0) (xs3403.drop i) s3408 = some t3406) (fun _ _ _ _ ⟨_, _, _, w, _⟩ => w.ex) ?_ ?_ ?_
            · intro G' H' w' e'
              exact ⟨(), (u3361), (u3362), w', e', rfl, hx3407⟩
            · rintro G3421 e3422 i3418 x3419 v3423 σ' G3414 H3417 hx3420 e3425 ⟨s3408, u3409, u3410, w3415, e3416, rfl, hm3412⟩ r3424
              obtain ⟨q3413, hb3411, hm3412⟩ := forL_at hx3420 hm3412
              have h3426 := Rep.mono _ e3416 h3400
              have h3427 := Rep.mono _ e3416 h3401
              have h3428 := Rep.mono _ e3416 h3402
              refine g_pair (i := 3) (j := 6) r3424 w3415.ex ?_
              intro v3429 v3430 r3431 r3432
              cases r3431
              cases r3432
              unfold m__law_shown_b3 at hb3411
              obtain ⟨b3434, hx3435, hb3411⟩ := bindS hb3411
              refine x_if w3415 (et_T (e_op rr_neI (e_dget kyS injS (e_snd (e_var (R := (rP (rM Sum.inr rI) (rM Sum.inr rI))) (x := told0) rfl (Rep.mono _ w3415.ex h3427))) (e_var (R := rS) (x := x3419.1) rfl rfl)) (e_var (R := rI) (x := x3419.2) rfl rfl))) (by first | (simp only [be1, bs1, ba1] at hx3435 ⊢; exact hx3435) | exact hx3435) ?_ ?_
              · intro hbb3434 H3436 w3437
                subst hbb3434
                have hb3411 := bifT hb3411
                obtain ⟨a3438, hx3439, hb3411⟩ := bindS hb3411
                have hb3411 : some (Stp.rt a3438) = some q3413 := hb3411
                cases hb3411
                have hm3412 : some (Sum.inr a3438) = some t3406 := hm3412
                cases hm3412
                have h : a3438 = r := Option.some.inj h
                subst h
                exact x_ret w3437 e_bl hx3439 (fun v9 H9 G9 w9 e9 r9 => k v9 H9 G9 w9.upE r9)
              · intro hbb3434 H3440 w3441
                subst hbb3434
                have hb3411 := bifF hb3411
                refine x_next ?_
                refine x_next ?_
                have hb3411 : Stp.nx () = q3413 := Option.some.inj hb3411
                subst hb3411
                exact ⟨G3414, (e3425.trans (Evl.Ex.refl _)), (), (some (V.int x3419.2)), (some (V.str x3419.1)), w3441, e3416, rfl, hm3412⟩
            · rintro σ' G3442 H3445 e3446 ⟨s3408, u3409, u3410, w3443, e3444, rfl, hm3412⟩
              have hm3412 := forL_end hm3412
              subst hm3412
              have h := elimL h
              have h3448 := Rep.mono _ e3444 h3400
              have h3449 := Rep.mono _ e3444 h3401
              have h3450 := Rep.mono _ e3444 h3402
              obtain ⟨a3452, hx3453, h⟩ := bindS h
              have h : a3452 = r := Option.some.inj h
              subst h
              exact x_ret w3443 (e_notV (e_call (ea_cons (e_var (R := (rL rI)) (x := masks_here0) rfl h3448) (ea_cons (e_snd (e_prj (k := 3) (pr := fun i => i.2.2.2.1) (e_var (R := (rTup (aC (rL rS) (aC (rM Sum.inr rI) (aC (rM Sum.inr rI) (aC (rP (rL (rP rS rI)) rI) (aC (rP (rL (rP rS rI)) rI) aN))))))) (x := due0) rfl h3450) (fun h => by obtain ⟨v0, _, rfl, h0, v1, _, rfl, h1, v2, _, rfl, h2, v3, _, rfl, h3, v4, _, rfl, h4, rfl⟩ := h; exact ⟨_, rfl, h3⟩))) (ea_cons (e_snd (e_prj (k := 4) (pr := fun i => i.2.2.2.2.1) (e_var (R := (rTup (aC (rL rS) (aC (rM Sum.inr rI) (aC (rM Sum.inr rI) (aC (rP (rL (rP rS rI)) rI) (aC (rP (rL (rP rS rI)) rI) aN))))))) (x := due0) rfl h3450) (fun h => by obtain ⟨v0, _, rfl, h0, v1, _, rfl, h1, v2, _, rfl, h2, v3, _, rfl, h3, v4, _, rfl, h4, rfl⟩ := h; exact ⟨_, rfl, h4⟩))) ea_nil))))) (by first | (simp only [be1, bs1, ba1] at hx3453 ⊢; exact hx3453) | exact hx3453) (fun v9 H9 G9 w9 e9 r9 => k v9 H9 G9 w9.upE r9)
def m_law_b1 (x3660 : (List (Str × Int))) (x3680 : (Int × (List Int))) (x3710 : (List (Str × Int))) (x3732 : (Int × (List Int))) (x3468 : ((List Int) × (List Int))) (records_3792 : (List m_Record)) (order_3487 : m_Order) (x3825 : (Int × Int)) (s3812 : Unit) : Option (Stp Unit Bool) :=
  ((atI ([(x3660, x3680.1), (x3710, x3732.1)] : (List ((List (Str × Int)) × Int))) x3825.1 >>= fun t3844 => (atI ([(x3660, x3680.1), (x3710, x3732.1)] : (List ((List (Str × Int)) × Int))) x3825.2 >>= fun t3845 => m__law_parting_due x3468.1 t3844 t3845)) >>= fun due_3846 => ((atI records_3792 x3825.1 >>= fun t3865 => (atI records_3792 x3825.2 >>= fun t3866 => m_parting_tables t3865 t3866 order_3487)) >>= fun told_3867 => (some due_3846.isNone >>= fun b3884 => bif b3884 then (some told_3867.isSome >>= fun b3888 => bif b3888 then (some false >>= fun a3893 => some (Stp.rt a3893)) else some (Stp.nx ())) else (((told_3867 >>= fun t3900 => (due_3846 >>= fun t3901 => m__law_shown x3468.1 t3900 t3901)) >>= fun t3902 => some (!t3902)) >>= fun b3903 => bif b3903 then (some false >>= fun a3908 => some (Stp.rt a3908)) else (told_3867 >>= fun x3915 => some (Stp.nx ()))))))
def m_law (script0 : (List Int)) : Option Bool :=
  (m__law_pot script0 >>= fun pot_here_3454 => (some (6 : Int) >>= fun x3463 => (m__law_masks pot_here_3454 x3463 >>= fun x3468 => (some (x3468.1.length : Int) >>= fun size_3482 => ((m__law_pairs x3468.1 >>= fun t3486 => m_Order___init__ size_3482 t3486) >>= fun order_3487 => (some (2 : Int) >>= fun x3497 => (some (4 : Int) >>= fun x3502 => (m__law_draw x3468.2 x3502 >>= fun x3507 => (some (x3497 + x3507.1) >>= fun x3518 => (m__law_names x3507.2 x3518 >>= fun x3530 => (some x3530.1 >>= fun x3548 => (some size_3482 >>= fun x3561 => (some ([]) >>= fun x3566 => (m__law_row x3530.2 x3548 x3561 x3566 >>= fun x3580 => (some x3530.1 >>= fun x3602 => (some size_3482 >>= fun x3616 => (some x3580.1 >>= fun x3621 => (m__law_second x3580.2 x3602 x3616 x3621 >>= fun x3636 => (some x3580.1 >>= fun x3660 => (some size_3482 >>= fun x3675 => (m__law_draw x3636.2 x3675 >>= fun x3680 => (some x3636.1 >>= fun x3710 => (some size_3482 >>= fun x3727 => (m__law_draw x3680.2 x3727 >>= fun x3732 => (mapS (fun x3785 => (atI x3530.1 (0 : Int) >>= fun t3790 => m_Record___init__ t3790 x3785.1 x3785.2)) ([(x3660, x3680.1), (x3710, x3732.1)] : (List ((List (Str × Int)) × Int))) >>= fun records_3792 => (some ([((0 : Int), (1 : Int)), ((1 : Int), (0 : Int)), ((0 : Int), (1 : Int))]) >>= fun xs3807 => forL (m_law_b1 x3660 x3680 x3710 x3732 x3468 records_3792 order_3487) xs3807 () >>= Sum.elim (fun s3812 => ((atI x3530.1 (1 : Int) >>= fun t3934 => ((atI ([(x3660, x3680.1), (x3710, x3732.1)] : (List ((List (Str × Int)) × Int))) (1 : Int) >>= fun t3932 => some t3932.1) >>= fun t3935 => ((atI ([(x3660, x3680.1), (x3710, x3732.1)] : (List ((List (Str × Int)) × Int))) (1 : Int) >>= fun t3933 => some t3933.2) >>= fun t3936 => m_Record___init__ t3934 t3935 t3936))) >>= fun other_3937 => ((((atI records_3792 (0 : Int) >>= fun t3953 => m_parting_tables t3953 other_3937 order_3487) >>= fun t3954 => some t3954) >>= fun t3955 => some t3955.isNone) >>= fun a3956 => some a3956))) (fun r => some r)))))))))))))))))))))))))))
theorem sc_law : FnScope ["_law_script", "_law_pot_here", "_law_masks_here", "_law_size", "_law_order", "_law_names_here", "_law_first", "_law_second_here", "_law_rows", "_law_records", "_law_other", "_law_one", "_law_two", "_law_due", "_law_told", "_law_row_here"] ["_law_script"] (defScope s_law) := ⟨rfl, rfl, rfl, by decide +kernel, rfl, by decide +kernel, by decide +kernel⟩
theorem ok_law (T : Tx K mg) : ∃ fd, FunD K "law" "law" (defArgs s_law) (defBody s_law) (defScope s_law) [] [] (He.ga K "law") fd ∧ ∀ base : Heap, FnOk P w K mg base CX0 6 (He.ga K "law") fd ["_law_script"] (PF (aC (rScr K) aN) rB (fun i => m_law i.1)) := by
  obtain ⟨fd, F⟩ := T.def_ 31 rfl
  refine ⟨fd, F, fun base => ?_⟩
  obtain ⟨fd__law_pot, G__law_pot, b__law_pot, k__law_pot, g__law_pot⟩ := ok__law_pot (w := w) (base := base) T
  obtain ⟨fd__law_masks, G__law_masks, b__law_masks, k__law_masks, g__law_masks⟩ := ok__law_masks (w := w) (base := base) T
  obtain ⟨fd_Order___init__, G_Order___init__, b_Order___init__⟩ := ok_Order___init__ (w := w) (base := base) T
  obtain ⟨fd__law_pairs, G__law_pairs, b__law_pairs, k__law_pairs, g__law_pairs⟩ := ok__law_pairs (w := w) (base := base) T
  obtain ⟨fd__law_names, G__law_names, b__law_names, k__law_names, g__law_names⟩ := ok__law_names (w := w) (base := base) T
  obtain ⟨fd__law_draw, G__law_draw, b__law_draw, k__law_draw, g__law_draw⟩ := ok__law_draw (w := w) (base := base) T
  obtain ⟨fd__law_row, G__law_row, b__law_row, k__law_row, g__law_row⟩ := ok__law_row (w := w) (base := base) T
  obtain ⟨fd__law_second, G__law_second, b__law_second, k__law_second, g__law_second⟩ := ok__law_second (w := w) (base := base) T
  obtain ⟨fd_Record___init__, G_Record___init__, b_Record___init__⟩ := ok_Record___init__ (w := w) (base := base) T
  obtain ⟨fd__law_parting_due, G__law_parting_due, b__law_parting_due, k__law_parting_due, g__law_parting_due⟩ := ok__law_parting_due (w := w) (base := base) T
  obtain ⟨fd_parting_tables, G_parting_tables, b_parting_tables, k_parting_tables, g_parting_tables⟩ := ok_parting_tables (w := w) (base := base) T
  obtain ⟨fd__law_shown, G__law_shown, b__law_shown, k__law_shown, g__law_shown⟩ := ok__law_shown (w := w) (base := base) T
  have nd := sc_law.nd
  refine (F.ok sc_law (fun vs H Q E h => ?_) (fun cdv A outer s H vs Q E hr h => ?_))
  · obtain ⟨G, ⟨script0, ⟨⟩⟩, r, e0, ⟨vscript0, _, rfl, hscript0, rfl⟩, h, k⟩ := h
    rfl
  · obtain ⟨G, ⟨script0, ⟨⟩⟩, r, e0, ⟨vscript0, _, rfl, hscript0, rfl⟩, h, k⟩ := h
    have w0 := Wo.start e0
    have h : m_law script0 = some r := h
    unfold m_law at h
    refine ⟨_, PSs.nox (pss_cons (ps_set (i := 1) nd rfl (Or.inl rfl) (pe_call G__law_pot (hr.mono (by decide)) rfl g__law_pot k__law_pot b__law_pot .nil pass0 (pa_cons (pv 0) pa_nil))) (pss_cons (ps_set (i := 2) nd rfl (Or.inl rfl) (pe_call G__law_masks (hr.mono (by decide)) rfl g__law_masks k__law_masks b__law_masks .nil pass0 (pa_cons (pv 1) (pa_cons pe_int pa_nil)))) (pss_cons (ps_set (i := 3) nd rfl (Or.inl rfl) (pe_callB (r := rLn K) call_len_seq (by rfl) (fr_len T) (by decide +kernel) (pa_cons (pv 2) pa_nil))) (pss_cons (ps_set (i := 4) nd rfl (Or.inl rfl) (pe_make (T.mkr 60 rfl) G_Order___init__ (hr.mono (by decide)) rfl (T.glo 22 rfl) b_Order___init__ .nil pass0 (pa_cons (pv 3) (pa_cons (pe_call G__law_pairs (hr.mono (by decide)) rfl g__law_pairs k__law_pairs b__law_pairs .nil pass0 (pa_cons (pv 2) pa_nil)) pa_nil)))) (pss_cons (ps_set (i := 5) nd rfl (Or.inr rfl) (pe_call G__law_names (hr.mono (by decide)) rfl g__law_names k__law_names b__law_names .nil pass0 (pa_cons (pv 1) (pa_cons (pe_op op_add pe_int (pe_call G__law_draw (hr.mono (by decide)) rfl g__law_draw k__law_draw b__law_draw .nil pass0 (pa_cons (pv 1) (pa_cons pe_int pa_nil)))) pa_nil)))) (pss_cons (ps_set (i := 6) nd rfl (Or.inl rfl) (pe_call G__law_row (hr.mono (by decide)) rfl g__law_row k__law_row b__law_row .nil pass0 (pa_cons (pv 1) (pa_cons (pv 5) (pa_cons (pv 3) (pa_cons (pe_lst pa_nil) pa_nil)))))) (pss_cons (ps_set (i := 7) nd rfl (Or.inl rfl) (pe_call G__law_second (hr.mono (by decide)) rfl g__law_second k__law_second b__law_second .nil pass0 (pa_cons (pv 1) (pa_cons (pv 5) (pa_cons (pv 3) (pa_cons (pv 6) pa_nil)))))) (pss_cons (ps_set (i := 8) nd rfl (Or.inl rfl) (pe_lst (pa_cons (pe_tup (pa_cons (pv 6) (pa_cons (pe_call G__law_draw (hr.mono (by decide)) rfl g__law_draw k__law_draw b__law_draw .nil pass0 (pa_cons (pv 1) (pa_cons (pv 3) pa_nil))) pa_nil))) (pa_cons (pe_tup (pa_cons (pv 7) (pa_cons (pe_call G__law_draw (hr.mono (by decide)) rfl g__law_draw k__law_draw b__law_draw .nil pass0 (pa_cons (pv 1) (pa_cons (pv 3) pa_nil))) pa_nil))) pa_nil)))) (pss_cons (ps_setLc (i := 9) (own := [("_law_row_here", 15)]) (by rfl) nd rfl rfl (sw_true rfl rfl rfl (by decide +kernel)) (show L2.PI _ _ _ (iList K _) from pi_list (pv 8)) (blkOk_by (by kernel_rfl)) (fun _ _ _ _ _ => pg_name (i := 15) nd rfl (by first | exact Or.inl rfl | exact Or.inr rfl)) (fun _ _ _ _ _ => pts_nil) (fun _ _ _ _ _ => (pe_make (T.mkr 61 rfl) G_Record___init__ (hr.mono (by decide)) rfl (T.glo 8 rfl) b_Record___init__ .nil pass0 (pa_cons (pe_ix (r := rIxL K) ix_list (pv 5) pe_int (fun _ _ => rfl)) (pa_cons (pe_ix (r := rIxT K) ix_tup (pv 15) pe_int (fun _ _ => rfl)) (pa_cons (pe_ix (r := rIxT K) ix_tup (pv 15) pe_int (fun _ _ => rfl)) pa_nil)))))) (pss_cons (ps_for PassesOwn.never rfl (pi_list (pe_lst (pa_cons (pe_tup (pa_cons pe_int (pa_cons pe_int pa_nil))) (pa_cons (pe_tup (pa_cons pe_int (pa_cons pe_int pa_nil))) (pa_cons (pe_tup (pa_cons pe_int (pa_cons pe_int pa_nil))) pa_nil))))) (pg_tup (by rfl) (pgs_cons (pg_name (i := 11) nd rfl (by first | exact Or.inl rfl | exact Or.inr rfl)) (pgs_cons (pg_name (i := 12) nd rfl (by first | exact Or.inl rfl | exact Or.inr rfl)) pgs_nil))) (pss_cons (ps_set (i := 13) nd rfl (Or.inl rfl) (pe_call G__law_parting_due (hr.mono (by decide)) rfl g__law_parting_due k__law_parting_due b__law_parting_due .nil pass0 (pa_cons (pv 2) (pa_cons (pe_ix (r := rIxL K) ix_list (pv 8) (pv 11) (fun _ _ => rfl)) (pa_cons (pe_ix (r := rIxL K) ix_list (pv 8) (pv 12) (fun _ _ => rfl)) pa_nil))))) (pss_cons (ps_set (i := 14) nd rfl (Or.inl rfl) (pe_call G_parting_tables (hr.mono (by decide)) rfl g_parting_tables k_parting_tables b_parting_tables .nil pass0 (pa_cons (pe_ix (r := rIxL K) ix_list (pv 9) (pv 11) (fun _ _ => rfl)) (pa_cons (pe_ix (r := rIxL K) ix_list (pv 9) (pv 12) (fun _ _ => rfl)) (pa_cons (pv 4) pa_nil))))) (pss_cons (ps_if (pt_cmpR op_isN (pv 13) pe_non (nomark _)) (pss_cons (ps_if (pt_cmpR op_notN (pv 14) pe_non (nomark _)) (pss_cons (ps_ret pe_bl) pss_nil) pss_nil) pss_nil) (pss_cons (ps_if (pt_not (pt_val (pe_call G__law_shown (hr.mono (by decide)) rfl g__law_shown k__law_shown b__law_shown .nil pass0 (pa_cons (pv 2) (pa_cons (pv 14) (pa_cons (pv 13) pa_nil)))))) (pss_cons (ps_ret pe_bl) pss_nil) (pss_cons (ps_expr (pe_dclear (pe_ix (r := rIxT K) ix_tup (pv 14) pe_int (fun _ _ => rfl)))) (pss_cons (ps_expr (pe_dclear (pe_ix (r := rIxT K) ix_tup (pv 14) pe_int (fun _ _ => rfl)))) pss_nil))) pss_nil)) pss_nil)))) (pss_cons (ps_set (i := 10) nd rfl (Or.inl rfl) (pe_make (T.mkr 61 rfl) G_Record___init__ (hr.mono (by decide)) rfl (T.glo 8 rfl) b_Record___init__ .nil pass0 (pa_cons (pe_ix (r := rIxL K) ix_list (pv 5) pe_int (fun _ _ => rfl)) (pa_cons (pe_ix (r := rIxT K) ix_tup (pe_ix (r := rIxL K) ix_list (pv 8) pe_int (fun _ _ => rfl)) pe_int (fun _ _ => rfl)) (pa_cons (pe_ix (r := rIxT K) ix_tup (pe_ix (r := rIxL K) ix_list (pv 8) pe_int (fun _ _ => rfl)) pe_int (fun _ _ => rfl)) pa_nil))))) (pss_cons (ps_ret (pe_cmpR op_isN (pe_call G_parting_tables (hr.mono (by decide)) rfl g_parting_tables k_parting_tables b_parting_tables .nil pass0 (pa_cons (pe_ix (r := rIxL K) ix_list (pv 9) pe_int (fun _ _ => rfl)) (pa_cons (pv 10) (pa_cons (pv 4) pa_nil)))) pe_non (nomark _))) pss_nil)))))))))))), ?_⟩
    obtain ⟨pot_here_3454, hx3455, h⟩ := bindS h
    refine x_setL w0 (el_call (ea_cons (e_var (R := (rScr K)) (x := script0) rfl hscript0) ea_nil)) (by first | (simp only [be1, bs1, ba1] at hx3455 ⊢; exact hx3455) | exact hx3455) ?_
    intro p3458 H3456 G3459 n3460 w3457 e3461
    have h3462 := Rep.mono _ e3461 hscript0
    refine x_setO ?_
    refine o_call ?_
    refine o_cons ?_
    refine o_var rfl ?_
    refine o_cons ?_
    obtain ⟨x3463, hx3464, h⟩ := bindS h
    refine c_i w3457 e_int hx3464 ?_
    intro H3465 w3466
    refine o_nil ?_
    obtain ⟨x3468, hx3469, h⟩ := bindS h
    refine c_p1l (i := 0) (j := (x3463, ())) w3466 rfl ⟨_, _, rfl, rfl, rfl⟩ hx3469 ?_
    intro p3472 H3470 G3473 n3474 w3471 e3475
    have h3476 := Rep.mono _ e3475 h3462
    have w3471 : Wo G H [] G3473 H3470 [(p3472, cL rI x3468.1), (p3458, cL rI x3468.2)] := w3471
    obtain ⟨G3477, w3478, e3479, h3480⟩ := w3471.freezeAt (i := 0) rfl n3474
    have h3481 := Rep.mono _ e3479 h3476
    have w3478 : Wo G H [] G3477 H3470 [(p3458, cL rI x3468.2)] := w3478
    obtain ⟨size_3482, hx3483, h⟩ := bindS h
    refine x_setI w3478 (e_cb rc_lenL (ea_cons (e_var (R := (rL rI)) (x := x3468.1) rfl h3480) ea_nil)) hx3483 ?_
    intro H3484 w3485
    refine o_slots (σ' := [some vscript0, some (V.ref p3458), some (V.ref p3472), some (V.int size_3482), none, none, none, none, none, none, none, none, none, none, none, none]) rfl ?_
    obtain ⟨order_3487, hx3488, h⟩ := bindS h
    refine x_set w3485 (e_make (ea_cons (e_var (R := rI) (x := size_3482) rfl rfl) (ea_cons (EL.e (el_call (ea_cons (e_var (R := (rL rI)) (x := x3468.1) rfl h3480) ea_nil))) ea_nil))) (by first | (simp only [be1, bs1, ba1] at hx3488 ⊢; exact hx3488) | exact hx3488) ?_
    intro v3491 H3489 G3492 w3490 e3493 h3494
    have h3495 := Rep.mono _ e3493 h3481
    have h3496 := Rep.mono _ e3493 h3480
    refine x_setO ?_
    refine o_call ?_
    refine o_cons ?_
    refine o_var rfl ?_
    refine o_cons ?_
    refine o_op ?_
    obtain ⟨x3497, hx3498, h⟩ := bindS h
    refine c_i w3490 e_int hx3498 ?_
    intro H3499 w3500
    refine o_call ?_
    refine o_cons ?_
    refine o_var rfl ?_
    refine o_cons ?_
    obtain ⟨x3502, hx3503, h⟩ := bindS h
    refine c_i w3500 e_int hx3503 ?_
    intro H3504 w3505
    refine o_nil ?_
    obtain ⟨x3507, hx3508, h⟩ := bindS h
    refine c_p1 (i := 0) (j := (x3502, ())) w3505 rfl ⟨_, _, rfl, rfl, rfl⟩ hx3508 ?_
    intro u3509 H3510 G3511 w3512 e3513 r3514
    have h3515 := Rep.mono _ e3513 h3495
    have h3516 := Rep.mono _ e3513 h3496
    have h3517 := Rep.mono _ e3513 h3494
    cases r3514
    have w3512 : Wo G H [] G3511 H3510 [(p3458, cL rI x3507.2)] := w3512
    obtain ⟨x3518, hx3519, h⟩ := bindS h
    refine c_rr rr_add w3512 rfl rfl hx3519 ?_
    intro u3520 H3521 G3522 w3523 e3524 r3525
    have h3526 := Rep.mono _ e3524 h3515
    have h3527 := Rep.mono _ e3524 h3516
    have h3528 := Rep.mono _ e3524 h3517
    cases r3525
    refine o_nil ?_
    obtain ⟨x3530, hx3531, h⟩ := bindS h
    refine c_p1l (i := 0) (j := (x3518, ())) w3523 rfl ⟨_, _, rfl, rfl, rfl⟩ hx3531 ?_
    intro p3534 H3532 G3535 n3536 w3533 e3537
    have h3538 := Rep.mono _ e3537 h3526
    have h3539 := Rep.mono _ e3537 h3527
    have h3540 := Rep.mono _ e3537 h3528
    have w3533 : Wo G H [] G3535 H3532 [(p3534, cL rS x3530.1), (p3458, cL rI x3530.2)] := w3533
    obtain ⟨G3541, w3542, e3543, h3544⟩ := w3533.freezeAt (i := 0) rfl n3536
    have h3545 := Rep.mono _ e3543 h3538
    have h3546 := Rep.mono _ e3543 h3539
    have h3547 := Rep.mono _ e3543 h3540
    have w3542 : Wo G H [] G3541 H3532 [(p3458, cL rI x3530.2)] := w3542
    refine x_setO ?_
    refine o_call ?_
    refine o_cons ?_
    refine o_var rfl ?_
    refine o_cons ?_
    obtain ⟨x3548, hx3549, h⟩ := bindS h
    refine c_e w3542 (e_var (R := (rL rS)) (x := x3530.1) rfl h3544) hx3549 ?_
    intro v3552 H3550 G3553 w3551 e3554 h3555
    have h3556 := Rep.mono _ e3554 h3545
    have h3557 := Rep.mono _ e3554 h3546
    have h3558 := Rep.mono _ e3554 h3547
    have h3559 := Rep.mono _ e3554 h3544
    refine o_cons ?_
    obtain ⟨x3561, hx3562, h⟩ := bindS h
    refine c_i w3551 (e_var (R := rI) (x := size_3482) rfl rfl) hx3562 ?_
    intro H3563 w3564
    refine o_cons ?_
    obtain ⟨x3566, hx3567, h⟩ := bindS h
    refine c_e w3564 (EL.e (el_disp (R := (rP rS rI)) eal_nil)) hx3567 ?_
    intro v3570 H3568 G3571 w3569 e3572 h3573
    have h3574 := Rep.mono _ e3572 h3556
    have h3575 := Rep.mono _ e3572 h3557
    have h3576 := Rep.mono _ e3572 h3558
    have h3577 := Rep.mono _ e3572 h3559
    have h3578 := Rep.mono _ e3572 h3555
    refine o_nil ?_
    obtain ⟨x3580, hx3581, h⟩ := bindS h
    refine c_p1l (i := 0) (j := (x3548, x3561, x3566, ())) w3569 rfl ⟨_, _, rfl, h3578, _, _, rfl, rfl, _, _, rfl, h3573, rfl⟩ hx3581 ?_
    intro p3584 H3582 G3585 n3586 w3583 e3587
    have h3588 := Rep.mono _ e3587 h3574
    have h3589 := Rep.mono _ e3587 h3575
    have h3590 := Rep.mono _ e3587 h3576
    have h3591 := Rep.mono _ e3587 h3577
    have h3592 := Rep.mono _ e3587 h3578
    have h3593 := Rep.mono _ e3587 h3573
    have w3583 : Wo G H [] G3585 H3582 [(p3584, cL (rP rS rI) x3580.1), (p3458, cL rI x3580.2)] := w3583
    obtain ⟨G3594, w3595, e3596, h3597⟩ := w3583.freezeAt (i := 0) rfl n3586
    have h3598 := Rep.mono _ e3596 h3588
    have h3599 := Rep.mono _ e3596 h3589
    have h3600 := Rep.mono _ e3596 h3590
    have h3601 := Rep.mono _ e3596 h3591
    have w3595 : Wo G H [] G3594 H3582 [(p3458, cL rI x3580.2)] := w3595
    refine o_slots (σ' := [some vscript0, some (V.ref p3458), some (V.ref p3472), some (V.int size_3482), some v3491, some (V.ref p3534), some (V.ref p3584), none, none, none, none, none, none, none, none, none]) rfl ?_
    refine x_setO ?_
    refine o_call ?_
    refine o_cons ?_
    refine o_var rfl ?_
    refine o_cons ?_
    obtain ⟨x3602, hx3603, h⟩ := bindS h
    refine c_e w3595 (e_var (R := (rL rS)) (x := x3530.1) rfl h3601) hx3603 ?_
    intro v3606 H3604 G3607 w3605 e3608 h3609
    have h3610 := Rep.mono _ e3608 h3598
    have h3611 := Rep.mono _ e3608 h3599
    have h3612 := Rep.mono _ e3608 h3600
    have h3613 := Rep.mono _ e3608 h3601
    have h3614 := Rep.mono _ e3608 h3597
    refine o_cons ?_
    obtain ⟨x3616, hx3617, h⟩ := bindS h
    refine c_i w3605 (e_var (R := rI) (x := size_3482) rfl rfl) hx3617 ?_
    intro H3618 w3619
    refine o_cons ?_
    obtain ⟨x3621, hx3622, h⟩ := bindS h
    refine c_e w3619 (e_var (R := (rL (rP rS rI))) (x := x3580.1) rfl h3614) hx3622 ?_
    intro v3625 H3623 G3626 w3624 e3627 h3628
    have h3629 := Rep.mono _ e3627 h3610
    have h3630 := Rep.mono _ e3627 h3611
    have h3631 := Rep.mono _ e3627 h3612
    have h3632 := Rep.mono _ e3627 h3613
    have h3633 := Rep.mono _ e3627 h3614
    have h3634 := Rep.mono _ e3627 h3609
    refine o_nil ?_
    obtain ⟨x3636, hx3637, h⟩ := bindS h
    refine c_p1l (i := 0) (j := (x3602, x3616, x3621, ())) w3624 rfl ⟨_, _, rfl, h3634, _, _, rfl, rfl, _, _, rfl, h3628, rfl⟩ hx3637 ?_
    intro p3640 H3638 G3641 n3642 w3639 e3643
    have h3644 := Rep.mono _ e3643 h3629
    have h3645 := Rep.mono _ e3643 h3630
    have h3646 := Rep.mono _ e3643 h3631
    have h3647 := Rep.mono _ e3643 h3632
    have h3648 := Rep.mono _ e3643 h3633
    have h3649 := Rep.mono _ e3643 h3634
    have h3650 := Rep.mono _ e3643 h3628
    have w3639 : Wo G H [] G3641 H3638 [(p3640, cL (rP rS rI) x3636.1), (p3458, cL rI x3636.2)] := w3639
    obtain ⟨G3651, w3652, e3653, h3654⟩ := w3639.freezeAt (i := 0) rfl n3642
    have h3655 := Rep.mono _ e3653 h3644
    have h3656 := Rep.mono _ e3653 h3645
    have h3657 := Rep.mono _ e3653 h3646
    have h3658 := Rep.mono _ e3653 h3647
    have h3659 := Rep.mono _ e3653 h3648
    have w3652 : Wo G H [] G3651 H3638 [(p3458, cL rI x3636.2)] := w3652
    refine x_setO ?_
    refine o_lst ?_
    refine o_cons ?_
    refine o_tup ?_
    refine o_cons ?_
    obtain ⟨x3660, hx3661, h⟩ := bindS h
    refine c_e w3652 (e_var (R := (rL (rP rS rI))) (x := x3580.1) rfl h3659) hx3661 ?_
    intro v3664 H3662 G3665 w3663 e3666 h3667
    have h3668 := Rep.mono _ e3666 h3655
    have h3669 := Rep.mono _ e3666 h3656
    have h3670 := Rep.mono _ e3666 h3657
    have h3671 := Rep.mono _ e3666 h3658
    have h3672 := Rep.mono _ e3666 h3659
    have h3673 := Rep.mono _ e3666 h3654
    refine o_cons ?_
    refine o_call ?_
    refine o_cons ?_
    refine o_var rfl ?_
    refine o_cons ?_
    obtain ⟨x3675, hx3676, h⟩ := bindS h
    refine c_i w3663 (e_var (R := rI) (x := size_3482) rfl rfl) hx3676 ?_
    intro H3677 w3678
    refine o_nil ?_
    obtain ⟨x3680, hx3681, h⟩ := bindS h
    refine c_p1 (i := 0) (j := (x3675, ())) w3678 rfl ⟨_, _, rfl, rfl, rfl⟩ hx3681 ?_
    intro u3682 H3683 G3684 w3685 e3686 r3687
    have h3688 := Rep.mono _ e3686 h3668
    have h3689 := Rep.mono _ e3686 h3669
    have h3690 := Rep.mono _ e3686 h3670
    have h3691 := Rep.mono _ e3686 h3671
    have h3692 := Rep.mono _ e3686 h3672
    have h3693 := Rep.mono _ e3686 h3673
    have h3694 := Rep.mono _ e3686 h3667
    cases r3687
    have w3685 : Wo G H [] G3684 H3683 [(p3458, cL rI x3680.2)] := w3685
    refine o_nil ?_
    refine c_pairO (R := (rL (rP rS rI))) (S := rI) (x := x3660) (y := x3680.1) w3685 h3694 rfl ?_
    intro v3696 H3701 G3697 w3698 e3699 h3700
    have h3702 := Rep.mono _ e3699 h3688
    have h3703 := Rep.mono _ e3699 h3689
    have h3704 := Rep.mono _ e3699 h3690
    have h3705 := Rep.mono _ e3699 h3691
    have h3706 := Rep.mono _ e3699 h3692
    have h3707 := Rep.mono _ e3699 h3693
    have h3708 := Rep.mono _ e3699 h3694
    refine o_cons ?_
    refine o_tup ?_
    refine o_cons ?_
    obtain ⟨x3710, hx3711, h⟩ := bindS h
    refine c_e w3698 (e_var (R := (rL (rP rS rI))) (x := x3636.1) rfl h3707) hx3711 ?_
    intro v3714 H3712 G3715 w3713 e3716 h3717
    have h3718 := Rep.mono _ e3716 h3702
    have h3719 := Rep.mono _ e3716 h3703
    have h3720 := Rep.mono _ e3716 h3704
    have h3721 := Rep.mono _ e3716 h3705
    have h3722 := Rep.mono _ e3716 h3706
    have h3723 := Rep.mono _ e3716 h3707
    have h3724 := Rep.mono _ e3716 h3708
    have h3725 := Rep.mono _ e3716 h3700
    refine o_cons ?_
    refine o_call ?_
    refine o_cons ?_
    refine o_var rfl ?_
    refine o_cons ?_
    obtain ⟨x3727, hx3728, h⟩ := bindS h
    refine c_i w3713 (e_var (R := rI) (x := size_3482) rfl rfl) hx3728 ?_
    intro H3729 w3730
    refine o_nil ?_
    obtain ⟨x3732, hx3733, h⟩ := bindS h
    refine c_p1 (i := 0) (j := (x3727, ())) w3730 rfl ⟨_, _, rfl, rfl, rfl⟩ hx3733 ?_
    intro u3734 H3735 G3736 w3737 e3738 r3739
    have h3740 := Rep.mono _ e3738 h3718
    have h3741 := Rep.mono _ e3738 h3719
    have h3742 := Rep.mono _ e3738 h3720
    have h3743 := Rep.mono _ e3738 h3721
    have h3744 := Rep.mono _ e3738 h3722
    have h3745 := Rep.mono _ e3738 h3723
    have h3746 := Rep.mono _ e3738 h3724
    have h3747 := Rep.mono _ e3738 h3725
    have h3748 := Rep.mono _ e3738 h3717
    cases r3739
    have w3737 : Wo G H [] G3736 H3735 [(p3458, cL rI x3732.2)] := w3737
    refine o_nil ?_
    refine c_pairO (R := (rL (rP rS rI))) (S := rI) (x := x3710) (y := x3732.1) w3737 h3748 rfl ?_
    intro v3750 H3755 G3751 w3752 e3753 h3754
    have h3756 := Rep.mono _ e3753 h3740
    have h3757 := Rep.mono _ e3753 h3741
    have h3758 := Rep.mono _ e3753 h3742
    have h3759 := Rep.mono _ e3753 h3743
    have h3760 := Rep.mono _ e3753 h3744
    have h3761 := Rep.mono _ e3753 h3745
    have h3762 := Rep.mono _ e3753 h3746
    have h3763 := Rep.mono _ e3753 h3747
    have h3764 := Rep.mono _ e3753 h3748
    refine o_nil ?_
    refine c_lstN (R := (rP (rL (rP rS rI)) rI)) (xs := [(x3660, x3680.1), (x3710, x3732.1)]) w3752 (.cons h3763 (.cons h3754 .nil)) (show 2 < 100000 by decide) ?_
    intro v3766 H3771 G3767 w3768 e3769 h3770
    have h3772 := Rep.mono _ e3769 h3756
    have h3773 := Rep.mono _ e3769 h3757
    have h3774 := Rep.mono _ e3769 h3758
    have h3775 := Rep.mono _ e3769 h3759
    have h3776 := Rep.mono _ e3769 h3760
    have h3777 := Rep.mono _ e3769 h3761
    have h3778 := Rep.mono _ e3769 h3762
    have h3779 := Rep.mono _ e3769 h3763
    have h3780 := Rep.mono _ e3769 h3764
    have h3781 := Rep.mono _ e3769 h3754
    obtain ⟨records_3792, hx3793, h⟩ := bindS h
    refine x_set w3768 (EL.e (el_map (el_lcL (j := 15) (e_var (R := (rL (rP (rL (rP rS rI)) rI))) (x := ([(x3660, x3680.1), (x3710, x3732.1)] : (List ((List (Str × Int)) × Int)))) rfl h3770) (fun _ => rfl) (fun _ _ _ _ _ _ _ _ => et_yes) (fun x3785 v3788 G3786 W3787 eG3782 eW3783 eX3784 h3789 => (e_makeS (ea_cons (e_op rr_ixL (e_var (R := (rL rS)) (x := x3530.1) rfl (Rep.mono _ eG3782 h3775)) e_int) (ea_cons (e_fst (e_var (R := (rP (rL (rP rS rI)) rI)) (x := x3785) rfl h3789)) (ea_cons (e_snd (e_var (R := (rP (rL (rP rS rI)) rI)) (x := x3785) rfl h3789)) ea_nil)))))))) (by first | (simp only [be1, bs1, ba1] at hx3793 ⊢; exact hx3793) | exact hx3793) ?_
    intro v3796 H3794 G3797 w3795 e3798 h3799
    have h3800 := Rep.mono _ e3798 h3772
    have h3801 := Rep.mono _ e3798 h3773
    have h3802 := Rep.mono _ e3798 h3774
    have h3803 := Rep.mono _ e3798 h3775
    have h3804 := Rep.mono _ e3798 h3776
    have h3805 := Rep.mono _ e3798 h3777
    have h3806 := Rep.mono _ e3798 h3770
    refine o_slots (σ' := [some vscript0, some (V.ref p3458), some (V.ref p3472), some (V.int size_3482), some v3491, some (V.ref p3534), some (V.ref p3584), some (V.ref p3640), some v3766, some v3796, none, none, none, none, none, none]) rfl ?_
    obtain ⟨xs3807, hx3808, h⟩ := bindS h
    obtain ⟨t3810, hx3811, h⟩ := bindS h
    refine x_forL w3795 (EL.e (el_disp (eal_cons (e_pair e_int e_int) (eal_cons (e_pair e_int e_int) (eal_cons (e_pair e_int e_int) eal_nil))))) hx3808 (fun i G' H' σ' => ∃ s3812 : Unit, ∃ u3813 : Option V, ∃ u3814 : Option V, ∃ u3815 : Option V, ∃ u3816 : Option V, Wo G H [] G' H' [(p3458, cL rI x3732.2)] ∧ Evl.Ex G3797 G' ∧ σ' = [some vscript0, some (V.ref p3458), some (V.ref p3472), some (V.int size_3482), some v3491, some (V.ref p3534), some (V.ref p3584), some (V.ref p3640), some v3766, some v3796, none, u3814, u3816, u3813, u3815, none] ∧ forL (m_law_b1 x3660 x3680 x3710 x3732 x3468 records_3792 order_3487) (xs3807.drop i) s3812 = some t3810) (fun _ _ _ _ ⟨_, _, _, _, _, w, _⟩ => w.ex) ?_ ?_ ?_
    · intro G' H' w' e'
      exact ⟨(), (none), (none), (none), (none), w', e', rfl, hx3811⟩
    · rintro G3827 e3828 i3824 x3825 v3829 σ' G3820 H3823 hx3826 e3831 ⟨s3812, u3813, u3814, u3815, u3816, w3821, e3822, rfl, hm3818⟩ r3830
      obtain ⟨q3819, hb3817, hm3818⟩ := forL_at hx3826 hm3818
      have h3832 := Rep.mono _ e3822 h3800
      have h3833 := Rep.mono _ e3822 h3801
      have h3834 := Rep.mono _ e3822 h3802
      have h3835 := Rep.mono _ e3822 h3803
      have h3836 := Rep.mono _ e3822 h3804
      have h3837 := Rep.mono _ e3822 h3805
      have h3838 := Rep.mono _ e3822 h3806
      have h3839 := Rep.mono _ e3822 h3799
      refine g_pair (i := 11) (j := 12) r3830 w3821.ex ?_
      intro v3840 v3841 r3842 r3843
      cases r3842
      cases r3843
      unfold m_law_b1 at hb3817
      refine o_slots (σ' := [some vscript0, some (V.ref p3458), some (V.ref p3472), some (V.int size_3482), some v3491, some (V.ref p3534), some (V.ref p3584), some (V.ref p3640), some v3766, some v3796, none, some (V.int x3825.1), some (V.int x3825.2), u3813, u3815, none]) rfl ?_
      obtain ⟨due_3846, hx3847, hb3817⟩ := bindS hb3817
      refine x_set w3821 (e_call (ea_cons (e_var (R := (rL rI)) (x := x3468.1) rfl h3833) (ea_cons (e_op rr_ixL (e_var (R := (rL (rP (rL (rP rS rI)) rI))) (x := ([(x3660, x3680.1), (x3710, x3732.1)] : (List ((List (Str × Int)) × Int)))) rfl h3838) (e_var (R := rI) (x := x3825.1) rfl rfl)) (ea_cons (e_op rr_ixL (e_var (R := (rL (rP (rL (rP rS rI)) rI))) (x := ([(x3660, x3680.1), (x3710, x3732.1)] : (List ((List (Str × Int)) × Int)))) rfl h3838) (e_var (R := rI) (x := x3825.2) rfl rfl)) ea_nil)))) (by first | (simp only [be1, bs1, ba1] at hx3847 ⊢; exact hx3847) | exact hx3847) ?_
      intro v3850 H3848 G3851 w3849 e3852 h3853
      have h3854 := Rep.mono _ e3852 h3832
      have h3855 := Rep.mono _ e3852 h3833
      have h3856 := Rep.mono _ e3852 h3834
      have h3857 := Rep.mono _ e3852 h3835
      have h3858 := Rep.mono _ e3852 h3836
      have h3859 := Rep.mono _ e3852 h3837
      have h3860 := Rep.mono _ e3852 h3838
      have h3861 := Rep.mono _ e3852 h3839
      obtain ⟨cs3864, F3862, w3863⟩ := w3849.fixAll
      obtain ⟨told_3867, hx3868, hb3817⟩ := bindS hb3817
      refine x_set w3863 (e_callw nwP_up (ea_cons (e_op rr_ixL (e_var (R := (rL (r_Record K))) (x := records_3792) rfl h3861) (e_var (R := rI) (x := x3825.1) rfl rfl)) (ea_cons (e_op rr_ixL (e_var (R := (rL (r_Record K))) (x := records_3792) rfl h3861) (e_var (R := rI) (x := x3825.2) rfl rfl)) (ea_cons (e_var (R := (r_Order K)) (x := order_3487) rfl h3856) ea_nil)))) (by first | (simp only [be1, bs1, ba1] at hx3868 ⊢; exact hx3868) | exact hx3868) ?_
      intro v3871 H3869 G3872 w3870 e3873 h3874
      have h3875 := Rep.mono _ e3873 h3854
      have h3876 := Rep.mono _ e3873 h3855
      have h3877 := Rep.mono _ e3873 h3856
      have h3878 := Rep.mono _ e3873 h3857
      have h3879 := Rep.mono _ e3873 h3858
      have h3880 := Rep.mono _ e3873 h3859
      have h3881 := Rep.mono _ e3873 h3860
      have h3882 := Rep.mono _ e3873 h3861
      have h3883 := Rep.mono _ e3873 h3853
      obtain ⟨b3884, hx3885, hb3817⟩ := bindS hb3817
      refine x_if w3870 (et_T (e_op (rr_isN nnN) (e_var (R := (rO (rTup (aC (rL rS) (aC (rM Sum.inr rI) (aC (rM Sum.inr rI) (aC (rP (rL (rP rS rI)) rI) (aC (rP (rL (rP rS rI)) rI) aN)))))))) (x := due_3846) rfl (Rep.mono _ w3870.ex h3883)) e_non)) hx3885 ?_ ?_
      · intro hbb3884 H3886 w3887
        subst hbb3884
        have hb3817 := bifT hb3817
        obtain ⟨b3888, hx3889, hb3817⟩ := bindS hb3817
        refine x_if w3887 (et_T (e_op (rr_notN nnP) (e_cv (c := fun x => x) (e_var (R := (rNwP H3848 (rM Sum.inr rI))) (x := told_3867) rfl (Rep.mono _ w3887.ex h3874)) nwP_r) e_non)) hx3889 ?_ ?_
        · intro hbb3888 H3890 w3891
          subst hbb3888
          have hb3817 := bifT hb3817
          have w3892 := w3891.unfixAll F3862 e3873
          have w3892 : Wo G H [] G3872 H3890 [(p3458, cL rI x3732.2)] := w3892
          obtain ⟨a3893, hx3894, hb3817⟩ := bindS hb3817
          have hb3817 : some (Stp.rt a3893) = some q3819 := hb3817
          cases hb3817
          have hm3818 : some (Sum.inr a3893) = some t3810 := hm3818
          cases hm3818
          have h : a3893 = r := Option.some.inj h
          subst h
          exact x_ret w3892 e_bl hx3894 (fun v9 H9 G9 w9 e9 r9 => k v9 H9 G9 w9.upE r9)
        · intro hbb3888 H3895 w3896
          subst hbb3888
          have hb3817 := bifF hb3817
          refine x_next ?_
          refine x_next ?_
          refine x_next ?_
          have w3897 := w3896.unfixAll F3862 e3873
          have w3897 : Wo G H [] G3872 H3895 [(p3458, cL rI x3732.2)] := w3897
          have hb3817 : Stp.nx () = q3819 := Option.some.inj hb3817
          subst hb3817
          exact ⟨G3872, (e3831.trans (e3852.trans e3873)), (), (some v3850), (some (V.int x3825.1)), (some v3871), (some (V.int x3825.2)), w3897, ((e3822.trans e3852).trans e3873), rfl, hm3818⟩
      · intro hbb3884 H3898 w3899
        subst hbb3884
        have hb3817 := bifF hb3817
        obtain ⟨b3903, hx3904, hb3817⟩ := bindS hb3817
        refine x_if w3899 (et_not (et_B (e_call (ea_cons (e_var (R := (rL rI)) (x := x3468.1) rfl (Rep.mono _ w3899.ex h3876)) (ea_cons (e_get (e_cv (c := fun x => x) (e_var (R := (rNwP H3848 (rM Sum.inr rI))) (x := told_3867) rfl (Rep.mono _ w3899.ex h3874)) nwP_r)) (ea_cons (e_get (e_var (R := (rO (rTup (aC (rL rS) (aC (rM Sum.inr rI) (aC (rM Sum.inr rI) (aC (rP (rL (rP rS rI)) rI) (aC (rP (rL (rP rS rI)) rI) aN)))))))) (x := due_3846) rfl (Rep.mono _ w3899.ex h3883))) ea_nil)))))) (by first | (simp only [be1, bs1, ba1] at hx3904 ⊢; exact hx3904) | exact hx3904) ?_ ?_
        · intro hbb3903 H3905 w3906
          subst hbb3903
          have hb3817 := bifT hb3817
          have w3907 := w3906.unfixAll F3862 e3873
          have w3907 : Wo G H [] G3872 H3905 [(p3458, cL rI x3732.2)] := w3907
          obtain ⟨a3908, hx3909, hb3817⟩ := bindS hb3817
          have hb3817 : some (Stp.rt a3908) = some q3819 := hb3817
          cases hb3817
          have hm3818 : some (Sum.inr a3908) = some t3810 := hm3818
          cases hm3818
          have h : a3908 = r := Option.some.inj h
          subst h
          exact x_ret w3907 e_bl hx3909 (fun v9 H9 G9 w9 e9 r9 => k v9 H9 G9 w9.upE r9)
        · intro hbb3903 H3910 w3911
          subst hbb3903
          have hb3817 := bifF hb3817
          obtain ⟨x3915, hx3917, hb3817⟩ := bindS hb3817
          have h3916 : (rNwP _ _).r _ _ (some x3915) := hx3917 ▸ h3874
          refine x_clrP (i := 14) w3863 w3911 rfl e3873 (Fixed.sc F3862) h3916 rfl ?_
          intro H3912 w3913
          have w3914 := w3913.unfixAll F3862 (Evl.Ex.refl _)
          have w3914 : Wo G H [] G3851 H3912 [(p3458, cL rI x3732.2)] := w3914
          refine x_next ?_
          refine x_next ?_
          refine x_next ?_
          have hb3817 : Stp.nx () = q3819 := Option.some.inj hb3817
          subst hb3817
          exact ⟨G3851, (e3831.trans e3852), (), (some v3850), (some (V.int x3825.1)), (some v3871), (some (V.int x3825.2)), w3914, (e3822.trans e3852), rfl, hm3818⟩
    · rintro σ' G3918 H3921 e3922 ⟨s3812, u3813, u3814, u3815, u3816, w3919, e3920, rfl, hm3818⟩
      have hm3818 := forL_end hm3818
      subst hm3818
      have h := elimL h
      have h3924 := Rep.mono _ e3920 h3800
      have h3925 := Rep.mono _ e3920 h3801
      have h3926 := Rep.mono _ e3920 h3802
      have h3927 := Rep.mono _ e3920 h3803
      have h3928 := Rep.mono _ e3920 h3804
      have h3929 := Rep.mono _ e3920 h3805
      have h3930 := Rep.mono _ e3920 h3806
      have h3931 := Rep.mono _ e3920 h3799
      refine o_slots (σ' := [some vscript0, some (V.ref p3458), some (V.ref p3472), some (V.int size_3482), some v3491, some (V.ref p3534), some (V.ref p3584), some (V.ref p3640), some v3766, some v3796, none, u3814, u3816, u3813, u3815, none]) rfl ?_
      obtain ⟨other_3937, hx3938, h⟩ := bindS h
      refine x_set w3919 (e_makeS (ea_cons (e_op rr_ixL (e_var (R := (rL rS)) (x := x3530.1) rfl h3927) e_int) (ea_cons (e_fst (e_op rr_ixL (e_var (R := (rL (rP (rL (rP rS rI)) rI))) (x := ([(x3660, x3680.1), (x3710, x3732.1)] : (List ((List (Str × Int)) × Int)))) rfl h3930) e_int)) (ea_cons (e_snd (e_op rr_ixL (e_var (R := (rL (rP (rL (rP rS rI)) rI))) (x := ([(x3660, x3680.1), (x3710, x3732.1)] : (List ((List (Str × Int)) × Int)))) rfl h3930) e_int)) ea_nil)))) (by first | (simp only [be1, bs1, ba1] at hx3938 ⊢; exact hx3938) | exact hx3938) ?_
      intro v3941 H3939 G3942 w3940 e3943 h3944
      have h3945 := Rep.mono _ e3943 h3924
      have h3946 := Rep.mono _ e3943 h3925
      have h3947 := Rep.mono _ e3943 h3926
      have h3948 := Rep.mono _ e3943 h3927
      have h3949 := Rep.mono _ e3943 h3928
      have h3950 := Rep.mono _ e3943 h3929
      have h3951 := Rep.mono _ e3943 h3930
      have h3952 := Rep.mono _ e3943 h3931
      obtain ⟨a3956, hx3957, h⟩ := bindS h
      have h : a3956 = r := Option.some.inj h
      subst h
      exact x_ret w3940 (e_op (rr_isN nnP) (e_cv (c := fun x => x) (e_callw nwP_up (ea_cons (e_op rr_ixL (e_var (R := (rL (r_Record K))) (x := records_3792) rfl h3952) e_int) (ea_cons (e_var (R := (r_Record K)) (x := other_3937) rfl h3944) (ea_cons (e_var (R := (r_Order K)) (x := order_3487) rfl h3947) ea_nil)))) nwP_r) e_non) (by first | (simp only [be1, bs1, ba1] at hx3957 ⊢; exact hx3957) | exact hx3957) (fun v9 H9 G9 w9 e9 r9 => k v9 H9 G9 w9.upE r9)
end
end My
namespace My
open PySem L2 Sim
section
variable {α β γ σ ρ : Type}
theorem tab_len {n : Nat} {f : Nat → α} : (tab n f).length = n := by simp [tab]
theorem tab_get {n : Nat} {f : Nat → α} {i : Nat} (h : i < n) : (tab n f)[i]? = some (f i) := by
  simp [tab, List.getElem?_map, List.getElem?_range h]
theorem tab_mem {n : Nat} {f : Nat → α} {x : α} : x ∈ tab n f ↔ ∃ i, i < n ∧ f i = x := by simp [tab]
theorem tab_congr {n : Nat} {f g : Nat → α} (h : ∀ i < n, f i = g i) : tab n f = tab n g :=
  List.map_congr_left fun i hi => h i (List.mem_range.mp hi)
theorem ixN_nat {n i : Nat} (h : i < n) : ixN n (i : Int) = some i := by
  unfold ixN
  rw [if_pos (by omega), if_pos (by omega)]
  rfl
theorem atI_nat {xs : List α} {i : Nat} (h : i < xs.length) : atI xs (i : Int) = some xs[i] := by
  unfold atI
  rw [ixN_nat h]
  exact List.getElem?_eq_getElem h
theorem atI_tab {n : Nat} {f : Nat → α} {i : Nat} (h : i < n) : atI (tab n f) (i : Int) = some (f i) := by
  unfold atI
  rw [ixN_nat (by rw [tab_len]; exact h)]
  exact tab_get h
theorem rngM0 {n : Nat} (h : n ≤ 100000) : rngM 0 (n : Int) = some (tab n fun i => (i : Int)) := by
  unfold rngM
  rw [if_pos (by omega)]
  unfold rng tab
  simp
theorem rngM1 {i n : Nat} (h : n ≤ 100000) (h' : i ≤ 100000) : rngM ((i : Int)) (n : Int) = some (tab (n - i) fun k => ((i + k : Nat) : Int)) := by
  unfold rngM
  rw [if_pos (by omega)]
  unfold rng tab
  have : ((n : Int) - (i : Int)).toNat = n - i := by omega
  rw [this]
  simp
theorem mapO_map {f : β → Option γ} {a : α → β} {g : α → γ} : ∀ {xs : List α}, (∀ x ∈ xs, f (a x) = some (g x)) → mapO f (xs.map a) = some (xs.map g)
  | [], _ => rfl
  | x :: xs, h => by
    show (f (a x) >>= fun y => mapO f (xs.map a) >>= fun ys => some (y :: ys)) = _
    rw [h x (List.mem_cons_self ..), mapO_map (fun y hy => h y (List.mem_cons_of_mem _ hy))]
    rfl
theorem lcM_map {p' : β → Option Bool} {f : β → Option γ} {a : α → β} {p : α → Bool} {g : α → γ} : ∀ {xs : List α}, (∀ x ∈ xs, p' (a x) = some (p x)) → (∀ x ∈ xs, f (a x) = some (g x)) →
    lcM p' f (xs.map a) = some ((xs.filter p).map g)
  | [], _, _ => rfl
  | x :: xs, h, h' => by
    show (p' (a x) >>= fun b => bif b then f (a x) >>= fun y => lcM p' f (xs.map a) >>= fun ys => some (y :: ys) else lcM p' f (xs.map a)) = _
    rw [h x (List.mem_cons_self ..), lcM_map (fun y hy => h y (List.mem_cons_of_mem _ hy)) (fun y hy => h' y (List.mem_cons_of_mem _ hy)), h' x (List.mem_cons_self ..)]
    cases e : p x <;> simp [List.filter_cons, e]
theorem sz_t {n : Nat} (h : n < 100000) : sz n = true := by simp [sz, h]
theorem mapS_tab {n : Nat} {a : Nat → β} {f : β → Option γ} {g : Nat → γ} (hn : n < 100000) (h : ∀ i < n, f (a i) = some (g i)) : mapS f (tab n a) = some (tab n g) := by
  unfold mapS
  rw [tab_len, sz_t hn]
  exact mapO_map fun x hx => h x (List.mem_range.mp hx)
theorem mapS_map {xs : List α} {f : α → Option β} {g : α → β} (hn : xs.length < 100000) (h : ∀ x ∈ xs, f x = some (g x)) : mapS f xs = some (xs.map g) := by
  unfold mapS
  rw [sz_t hn]
  have := mapO_map (f := f) (a := id) (g := g) (xs := xs) h
  rwa [List.map_id] at this
theorem lcS_tab {n : Nat} {a : Nat → β} {p' : β → Option Bool} {f : β → Option γ} {p : Nat → Bool} {g : Nat → γ} (hn : n < 100000) (h : ∀ i < n, p' (a i) = some (p i)) (h' : ∀ i < n, f (a i) = some (g i)) :
    lcS p' f (tab n a) = some (((List.range n).filter p).map g) := by
  unfold lcS
  rw [tab_len, sz_t hn]
  exact lcM_map (fun x hx => h x (List.mem_range.mp hx)) (fun x hx => h' x (List.mem_range.mp hx))
theorem lcS_map {xs : List α} {a : α → β} {p' : β → Option Bool} {f : β → Option γ} {p : α → Bool} {g : α → γ} (hn : xs.length < 100000) (h : ∀ x ∈ xs, p' (a x) = some (p x)) (h' : ∀ x ∈ xs, f (a x) = some (g x)) :
    lcS p' f (xs.map a) = some ((xs.filter p).map g) := by
  unfold lcS
  rw [List.length_map, sz_t hn]
  exact lcM_map h h'
theorem forL_nx {body : α → Unit → Option (Stp Unit ρ)} : ∀ {xs : List α}, (∀ x ∈ xs, body x () = some (.nx ())) → forL body xs () = some (.inl ())
  | [], _ => rfl
  | x :: xs, h => by
    show (body x () >>= stpK (forL body xs)) = _
    rw [h x (List.mem_cons_self ..)]
    exact forL_nx fun y hy => h y (List.mem_cons_of_mem _ hy)
theorem forL_nxT {body : α → Unit → Option (Stp Unit ρ)} {n : Nat} {a : Nat → α} (h : ∀ i < n, body (a i) () = some (.nx ())) : forL body (tab n a) () = some (.inl ()) :=
  forL_nx fun x hx => by obtain ⟨i, hi, rfl⟩ := tab_mem.mp hx; exact h i hi
theorem forL_find {body : β → Unit → Option (Stp Unit ρ)} {a : α → β} {p : α → Bool} {g : α → ρ} : ∀ {xs : List α}, (∀ x ∈ xs, body (a x) () = some (bif p x then .rt (g x) else .nx ())) →
    forL body (xs.map a) () = some (match xs.find? p with | some x => .inr (g x) | none => .inl ())
  | [], _ => rfl
  | x :: xs, h => by
    show (body (a x) () >>= stpK (forL body (xs.map a))) = _
    rw [h x (List.mem_cons_self ..)]
    cases e : p x
    · rw [List.find?_cons, e]
      exact forL_find fun y hy => h y (List.mem_cons_of_mem _ hy)
    · rw [List.find?_cons, e]; rfl
theorem forS_un {body : α → Unit → Option Unit} : ∀ {xs : List α}, (∀ x ∈ xs, body x () = some ()) → forS body xs () = some ()
  | [], _ => rfl
  | x :: xs, h => by
    show (body x () >>= forS body xs) = _
    rw [h x (List.mem_cons_self ..)]
    exact forS_un fun y hy => h y (List.mem_cons_of_mem _ hy)
/-- a loop that keeps something -/
theorem forS_keep {body : α → σ → Option σ} {I : Nat → σ → Prop} : ∀ {xs : List α} {k : Nat} {s : σ}, I k s → (∀ x ∈ xs, ∀ j s, k ≤ j → j < k + xs.length → I j s → ∃ s', body x s = some s' ∧ I (j + 1) s') →
    ∃ s', forS body xs s = some s' ∧ I (k + xs.length) s'
  | [], k, s, h, _ => ⟨s, rfl, h⟩
  | x :: xs, k, s, h, hs => by
    obtain ⟨s1, e1, h1⟩ := hs x (List.mem_cons_self ..) k s (Nat.le_refl _) (by simp) h
    obtain ⟨s2, e2, h2⟩ := forS_keep (xs := xs) (k := k + 1) h1 fun y hy j t hj hj' => hs y (List.mem_cons_of_mem _ hy) j t (by omega) (by simp; omega)
    refine ⟨s2, ?_, ?_⟩
    · show (body x s >>= forS body xs) = _
      rw [e1]; exact e2
    · have : k + (x :: xs).length = k + 1 + xs.length := by simp; omega
      rw [this]; exact h2
/-- a loop whose k-th state is told -/
theorem forS_tab {body : α → σ → Option σ} {a : Nat → α} {S : Nat → σ} {n : Nat} (h : ∀ i < n, body (a i) (S i) = some (S (i + 1))) : forS body (tab n a) (S 0) = some (S n) := by
  suffices h' : ∀ m k, k + m = n → forS body ((List.range' k m).map a) (S k) = some (S n) by
    have := h' n 0 (by omega)
    rw [← List.range_eq_range'] at this
    exact this
  intro m
  induction m with
  | zero => intro k hk; have : k = n := by omega
            subst this; rfl
  | succ m ih =>
    intro k hk
    show (body (a k) (S k) >>= forS body ((List.range' (k + 1) m).map a)) = _
    rw [h k (by omega)]
    exact ih (k + 1) (by omega)
end

abbrev tab2 (n : Nat) (R : Nat → Nat → α) : List (List α) := tab n fun a => tab n fun b => R a b
theorem atI2 {n : Nat} {R : Nat → Nat → α} {a b : Nat} (ha : a < n) (hb : b < n) : (atI (tab2 n R) (a : Int) >>= fun t => atI t (b : Int)) = some (R a b) := by
  rw [atI_tab ha]
  exact atI_tab hb
theorem tab2_congr {n : Nat} {R S : Nat → Nat → α} (h : ∀ a < n, ∀ b < n, R a b = S a b) : tab2 n R = tab2 n S :=
  tab_congr fun a ha => tab_congr fun b hb => h a ha b hb
theorem mul_small {a b : Nat} (ha : a ≤ 12) : mulM (a : Int) (b : Int) = some (((a * b : Nat)) : Int) := by
  unfold mulM
  rw [if_pos (Or.inl (by omega))]
  simp
/-- the pairs lie below n -/
def InR (n : Nat) (ps : List (Int × Int)) : Prop := ∀ p ∈ ps, ∃ a b : Nat, a < n ∧ b < n ∧ p = ((a : Int), (b : Int))
theorem InR.tail {n : Nat} {p} {ps : List (Int × Int)} (h : InR n (p :: ps)) : InR n ps := fun q hq => h q (List.mem_cons_of_mem _ hq)
theorem ix_lt {n a b : Nat} (ha : a < n) (hb : b < n) : a * n + b < n * n := by
  have : (a + 1) * n ≤ n * n := Nat.mul_le_mul_right n ha
  rw [Nat.succ_mul] at this
  omega
theorem ix_inj {n a b c d : Nat} (hb : b < n) (hd : d < n) (h : a * n + b = c * n + d) : a = c ∧ b = d := by
  have e : (a * n + b) / n = (c * n + d) / n := by rw [h]
  have e2 : (a * n + b) % n = (c * n + d) % n := by rw [h]
  rw [Nat.mul_comm a n, Nat.mul_comm c n, Nat.mul_add_div (by omega), Nat.mul_add_div (by omega), Nat.div_eq_of_lt hb, Nat.div_eq_of_lt hd] at e
  rw [Nat.mul_comm a n, Nat.mul_comm c n, Nat.mul_add_mod, Nat.mul_add_mod, Nat.mod_eq_of_lt hb, Nat.mod_eq_of_lt hd] at e2
  exact ⟨by omega, e2⟩
/-! pop -/
section
open PyProof.Rows
theorem ixN_popAt {n k : Nat} (h : k < n) : seqIndex? (k : Int) n = some k := by
  unfold seqIndex?
  have : ¬ ((k : Int) < 0) := by omega
  simp only [this, if_false]
  have h2 : (decide (0 ≤ (k : Int)) && decide ((k : Int) < (n : Int))) = true := by simp; exact h
  rw [if_pos h2]
  rfl
theorem perm_erase {α : Type} : ∀ {xs : List α} {k : Nat} (h : k < xs.length), xs.Perm (xs[k] :: xs.eraseIdx k)
  | x :: xs, 0, _ => .refl _
  | x :: xs, k + 1, h => by
    have h : k < xs.length := by simpa using h
    exact ((perm_erase h).cons x).trans (.swap ..)
/-- a list drawn out in another order -/
theorem popAt_eq {α : Type} {xs : List α} {k : Nat} (h : k < xs.length) (h2 : xs.length < 100000) : popAtM xs (k : Int) = some (xs[k], xs.eraseIdx k) := by
  unfold popAtM
  rw [if_pos (by omega), ixN_popAt h]
  simp only [Option.bind_eq_bind, bs]
  rw [List.getElem?_eq_getElem h]
  rfl
end
end My

namespace My
open PySem L2 Sim
theorem cl_b1 {n : Nat} (hn : n ≤ 12) : ∀ {ps : List (Int × Int)} {s : List Bool} {D : Nat → Nat → Bool}, InR n ps → s.length = n * n → (∀ a < n, ∀ b < n, s[a * n + b]? = some (D a b)) →
    ∃ s', forS (m_closure_b1 (n : Int)) ps s = some s' ∧ s'.length = n * n ∧ ∀ a < n, ∀ b < n, s'[a * n + b]? = some (D a b || decide (((a : Int), (b : Int)) ∈ ps))
  | [], s, D, _, hl, hs => ⟨s, rfl, hl, fun a ha b hb => by simp [hs a ha b hb]⟩
  | p :: ps, s, D, hp, hl, hs => by
    obtain ⟨c, d, hc, hd, rfl⟩ := hp _ (List.mem_cons_self ..)
    have e1 : m_closure_b1 (n : Int) ((c : Int), (d : Int)) s = some (s.set (c * n + d) true) := by
      simp only [m_closure_b1, mul_small (show c ≤ 12 by omega), Option.bind_eq_bind, Option.bind_some]
      rw [show ((c * n : Nat) : Int) + (d : Int) = ((c * n + d : Nat) : Int) by simp]
      unfold setM
      rw [ixN_nat (by rw [hl]; exact ix_lt hc hd)]
      rfl
    obtain ⟨s', e2, h1, h2⟩ := cl_b1 hn (ps := ps) (s := s.set (c * n + d) true) (D := fun a b => D a b || decide (((a : Int), (b : Int)) = ((c : Int), (d : Int)))) hp.tail (by rw [List.length_set]; exact hl) (by
      intro a ha b hb
      rw [List.getElem?_set]
      by_cases e : c * n + d = a * n + b
      · obtain ⟨h1, h2⟩ := ix_inj hd hb e
        subst h1; subst h2
        simp [hl, ix_lt hc hd]
      · rw [if_neg e, hs a ha b hb]
        have : ¬ (((a : Int), (b : Int)) = ((c : Int), (d : Int))) := by
          intro q
          rw [Prod.mk.injEq] at q
          apply e
          rw [show a = c by omega, show b = d by omega]
        simp [this])
    refine ⟨s', ?_, h1, fun a ha b hb => ?_⟩
    · show (m_closure_b1 (n : Int) ((c : Int), (d : Int)) s >>= forS (m_closure_b1 (n : Int)) ps) = _
      rw [e1]; exact e2
    · rw [h2 a ha b hb]
      simp [List.mem_cons, Bool.or_assoc]
def wst (m : Nat) (R : Nat → Nat → Bool) (a b : Nat) : Bool := R a b || (R a m && R m b)
def wsh (R : Nat → Nat → Bool) : Nat → Nat → Nat → Bool
  | 0 => R
  | k + 1 => wst k (wsh R k)
theorem cl_b2 {n m : Nat} {R : Nat → Nat → Bool} (hn : n ≤ 12) (hm : m < n) : m_closure_b2 (n : Int) (m : Int) (tab2 n R) = some (tab2 n (wst m R)) := by
  unfold m_closure_b2
  rw [rngM0 (by omega)]
  simp only [Option.bind_eq_bind, Option.bind_some]
  rw [mapS_tab (g := fun a => tab n fun b => wst m R a b) (by omega)]
  · rfl
  · intro a ha
    rw [mapS_tab (g := fun b => wst m R a b) (by omega)]
    intro b hb
    have h1 := atI2 (R := R) ha hb
    have h2 := atI2 (R := R) ha hm
    have h3 := atI2 (R := R) hm hb
    simp only [Option.bind_eq_bind] at h1 h2 h3
    rw [h1, h2, h3]
    unfold orO andO wst
    cases R a b <;> cases R a m <;> rfl
theorem m_closure_eq {n : Nat} {ps : List (Int × Int)} (hn : n ≤ 12) (hp : InR n ps) :
    m_closure (n : Int) ps = some (tab2 n (wsh (fun a b => a == b || decide (((a : Int), (b : Int)) ∈ ps)) n)) := by
  unfold m_closure
  rw [mul_small hn]
  simp only [Option.bind_eq_bind, Option.bind_some]
  have hnn : n * n ≤ 144 := Nat.mul_le_mul hn hn
  rw [rngM0 (by omega)]
  simp only [Option.bind_some]
  rw [mapS_tab (f := fun _ => some false) (g := fun _ => false) (by omega) (fun _ _ => rfl)]
  simp only [Option.bind_some]
  obtain ⟨s, e, h1, h2⟩ := cl_b1 hn (s := tab (n * n) fun _ => false) (D := fun _ _ => false) hp tab_len (fun a ha b hb => tab_get (ix_lt ha hb))
  rw [e]
  simp only [Option.bind_some]
  rw [rngM0 (by omega)]
  simp only [Option.bind_some]
  rw [mapS_tab (g := fun a => tab n fun b => (a == b || decide (((a : Int), (b : Int)) ∈ ps))) (by omega)]
  · simp only [Option.bind_some]
    have hf := forS_tab (body := m_closure_b2 (n : Int)) (a := fun i : Nat => (i : Int)) (n := n) (S := fun k => tab2 n (wsh (fun a b => a == b || decide (((a : Int), (b : Int)) ∈ ps)) k)) (fun i hi => cl_b2 hn hi)
    exact congrArg (fun z => z.bind some) hf
  · intro a ha
    rw [mapS_tab (g := fun b => (a == b || decide (((a : Int), (b : Int)) ∈ ps))) (by omega)]
    intro b hb
    rw [mul_small (by omega)]
    simp only [Option.bind_some]
    rw [show ((a * n : Nat) : Int) + (b : Int) = ((a * n + b : Nat) : Int) by simp]
    have : atI s ((a * n + b : Nat) : Int) = some (decide (((a : Int), (b : Int)) ∈ ps)) := by
      unfold atI
      rw [ixN_nat (by rw [h1]; exact ix_lt ha hb)]
      have := h2 a ha b hb
      simpa using this
    rw [this]
    unfold orO
    by_cases e : a = b
    · subst e; simp
    · have : ((a : Int) == (b : Int)) = false := by simp; omega
      rw [this]; simp [e]

/-! ### Warshall -/
theorem wsh_mono {R : Nat → Nat → Bool} {a b : Nat} : ∀ {k}, R a b = true → wsh R k a b = true
  | 0, h => h
  | k + 1, h => by
    show wst k (wsh R k) a b = true
    unfold wst
    rw [wsh_mono (k := k) h]
    rfl
theorem wsh_inv {R : Nat → Nat → Bool} : ∀ {k m a b}, m < k → wsh R k a m = true → wsh R k m b = true → wsh R k a b = true
  | k + 1, m, a, b, hm, h1, h2 => by
    have h1 : (wsh R k a m || (wsh R k a k && wsh R k k m)) = true := h1
    have h2 : (wsh R k m b || (wsh R k m k && wsh R k k b)) = true := h2
    show (wsh R k a b || (wsh R k a k && wsh R k k b)) = true
    simp only [Bool.or_eq_true, Bool.and_eq_true] at h1 h2 ⊢
    by_cases e : m = k
    · subst e
      rcases h1 with h1 | h1 <;> rcases h2 with h2 | h2 <;> simp_all
    · have hk : m < k := by omega
      have I := fun {a b : Nat} => wsh_inv (R := R) (k := k) (m := m) (a := a) (b := b) hk
      rcases h1 with h1 | ⟨h1, h1'⟩
      · rcases h2 with h2 | ⟨h2, h2'⟩
        · exact Or.inl (I h1 h2)
        · exact Or.inr ⟨I h1 h2, h2'⟩
      · rcases h2 with h2 | ⟨h2, h2'⟩
        · exact Or.inr ⟨h1, I h1' h2⟩
        · exact Or.inr ⟨h1, h2'⟩
theorem wsh_sound {R : Nat → Nat → Bool} {S : Nat → Nat → Prop} {n : Nat} (ht : ∀ a b c, a < n → b < n → c < n → S a b → S b c → S a c) (hR : ∀ a b, a < n → b < n → R a b = true → S a b) :
    ∀ {k a b}, k ≤ n → a < n → b < n → wsh R k a b = true → S a b
  | 0, a, b, _, ha, hb, h => hR a b ha hb h
  | k + 1, a, b, hk, ha, hb, h => by
    have h : (wsh R k a b || (wsh R k a k && wsh R k k b)) = true := h
    simp only [Bool.or_eq_true, Bool.and_eq_true] at h
    have I := fun {a b : Nat} => wsh_sound (S := S) ht hR (k := k) (a := a) (b := b) (by omega)
    rcases h with h | ⟨h, h'⟩
    · exact I ha hb h
    · exact ht a k b ha (by omega) hb (I ha (by omega) h) (I (by omega) hb h')

/-- an order on the places below n, told by pairs -/
structure Ord (n : Nat) (le : Nat → Nat → Bool) : Prop where
  rf : ∀ a, a < n → le a a = true
  an : ∀ a b, a < n → b < n → le a b = true → le b a = true → a = b
  tr : ∀ a b c, a < n → b < n → c < n → le a b = true → le b c = true → le a c = true
/-- the pairs tell the order -/
structure Gens (n : Nat) (le : Nat → Nat → Bool) (ps : List (Int × Int)) : Prop where
  rg : InR n ps
  sd : ∀ a b, a < n → b < n → ((a : Int), (b : Int)) ∈ ps → le a b = true
  gn : ∀ S : Nat → Nat → Prop, (∀ a, a < n → S a a) → (∀ a b c, a < n → b < n → c < n → S a b → S b c → S a c) → (∀ a b, a < n → b < n → ((a : Int), (b : Int)) ∈ ps → S a b) → ∀ a b, a < n → b < n → le a b = true → S a b
theorem closure_le {n : Nat} {le : Nat → Nat → Bool} {ps : List (Int × Int)} (hn : n ≤ 12) (o : Ord n le) (g : Gens n le ps) : m_closure (n : Int) ps = some (tab2 n le) := by
  rw [m_closure_eq hn g.rg]
  congr 1
  refine tab2_congr fun a ha b hb => ?_
  cases e : le a b with
  | true =>
    refine g.gn (fun a b => wsh (fun a b => a == b || decide (((a : Int), (b : Int)) ∈ ps)) n a b = true) (fun a ha => wsh_mono (by simp)) (fun a b c ha hb hc h1 h2 => wsh_inv hb h1 h2) (fun a b ha hb h => wsh_mono (by simp [h])) a b ha hb e
  | false =>
    cases e2 : wsh (fun a b => a == b || decide (((a : Int), (b : Int)) ∈ ps)) n a b with
    | false => rfl
    | true =>
      have := wsh_sound (S := fun a b => le a b = true) (n := n) o.tr (fun a b ha hb h => by
        simp only [Bool.or_eq_true, decide_eq_true_eq, beq_iff_eq] at h
        rcases h with h | h
        · subst h; exact o.rf a ha
        · exact g.sd a b ha hb h) (Nat.le_refl n) ha hb e2
      rw [e] at this
      cases this
/-- every two have a least above -/
structure Lub (n : Nat) (le : Nat → Nat → Bool) (j : Nat → Nat → Nat) : Prop where
  lt : ∀ a b, a < n → b < n → j a b < n
  l : ∀ a b, a < n → b < n → le a (j a b) = true
  r : ∀ a b, a < n → b < n → le b (j a b) = true
  le : ∀ a b c, a < n → b < n → c < n → le a c = true → le b c = true → le (j a b) c = true
theorem least_above_eq {n : Nat} {le : Nat → Nat → Bool} {j : Nat → Nat → Nat} (hn : n ≤ 12) (o : Ord n le) (L : Lub n le j) {a b : Nat} (ha : a < n) (hb : b < n) :
    m_least_above (tab2 n le) (a : Int) (b : Int) = some (some ((j a b : Nat) : Int)) := by
  unfold m_least_above
  rw [tab_len, rngM0 (by omega)]
  simp only [Option.bind_eq_bind, Option.bind_some]
  rw [lcS_tab (p := fun c => le a c && le b c) (g := fun c => (c : Int)) (by omega) ?h1 (fun _ _ => rfl)]
  case h1 =>
    intro c hc
    have h1 := atI2 (R := le) ha hc
    have h2 := atI2 (R := le) hb hc
    simp only [Option.bind_eq_bind] at h1 h2
    rw [h1, h2]
    unfold andO
    cases le a c <;> rfl
  simp only [Option.bind_some]
  have hU : ∀ c, c ∈ (List.range n).filter (fun c => le a c && le b c) ↔ c < n ∧ le a c = true ∧ le b c = true := fun c => by simp [List.mem_filter]
  generalize hUe : (List.range n).filter (fun c => le a c && le b c) = U at hU
  have hl : U.length ≤ n := by rw [← hUe]; exact Nat.le_trans (List.length_filter_le _ _) (by simp)
  rw [forL_find (p := fun e => (U.filter (fun x => le e x)).length == U.length) (g := fun e => some ((e : Nat) : Int))]
  · have hj : j a b ∈ U := (hU _).mpr ⟨L.lt a b ha hb, L.l a b ha hb, L.r a b ha hb⟩
    have key : ∀ e ∈ U, ((U.filter (fun x => le e x)).length == U.length) = true ↔ e = j a b := by
      intro e he
      rw [beq_iff_eq, List.length_filter_eq_length_iff]
      obtain ⟨h1, h2, h3⟩ := (hU e).mp he
      constructor
      · intro h
        exact o.an e (j a b) h1 (L.lt a b ha hb) (h _ hj) (L.le a b e ha hb h1 h2 h3)
      · rintro rfl x hx
        obtain ⟨k1, k2, k3⟩ := (hU x).mp hx
        exact L.le a b x ha hb k1 k2 k3
    cases hf : U.find? (fun e => (U.filter (fun x => le e x)).length == U.length) with
    | none =>
      have := List.find?_eq_none.mp hf _ hj
      exact absurd ((key _ hj).mpr rfl) this
    | some e =>
      have h1 := List.mem_of_find?_eq_some hf
      have h2 := List.find?_some hf
      have := (key e h1).mp h2
      subst this
      rfl
  · intro e he
    obtain ⟨h1, _, _⟩ := (hU e).mp he
    unfold m_least_above_b1
    rw [lcS_map (p := fun x => le e x) (g := fun c => (c : Int)) (by omega) ?h2 (fun _ _ => rfl)]
    case h2 =>
      intro x hx
      obtain ⟨k1, _, _⟩ := (hU x).mp hx
      exact atI2 h1 k1
    simp only [Option.bind_eq_bind, Option.bind_some, List.length_map]
    have : (((U.filter fun x => le e x).length : Int) == (U.length : Int)) = ((U.filter fun x => le e x).length == U.length) := by
      cases h : ((U.filter fun x => le e x).length == U.length) with
      | true => rw [beq_iff_eq] at h; rw [h]; simp
      | false => rw [beq_eq_false_iff_ne] at h ⊢; omega
    rw [this]
    cases ((U.filter fun x => le e x).length == U.length) <;> rfl
theorem bounds_eq {n : Nat} {le : Nat → Nat → Bool} {j : Nat → Nat → Nat} (hn : n ≤ 12) (o : Ord n le) (L : Lub n le j) : m_bounds_table (tab2 n le) = some (tab2 n fun a b => some ((j a b : Nat) : Int)) := by
  unfold m_bounds_table
  rw [tab_len]
  simp only [Option.bind_eq_bind, Option.bind_some]
  rw [rngM0 (by omega)]
  simp only [Option.bind_some]
  rw [mapS_tab (g := fun a => tab n fun b => some ((j a b : Nat) : Int)) (by omega)]
  · rfl
  · intro a ha
    rw [mapS_tab (g := fun b => some ((j a b : Nat) : Int)) (by omega)]
    intro b hb
    exact least_above_eq hn o L ha hb
theorem first_ring_eq {n : Nat} {le : Nat → Nat → Bool} (hn : n ≤ 12) (o : Ord n le) : m_first_ring (tab2 n le) = some none := by
  unfold m_first_ring
  rw [tab_len]
  simp only [Option.bind_eq_bind, Option.bind_some]
  rw [rngM0 (by omega)]
  simp only [Option.bind_some]
  rw [forL_nxT]
  · rfl
  · intro a ha
    unfold m_first_ring_b1
    rw [tab_len]
    simp only [Option.bind_eq_bind, Option.bind_some]
    rw [show (a : Int) + 1 = ((a + 1 : Nat) : Int) by simp, rngM1 (by omega) (by omega)]
    simp only [Option.bind_some]
    rw [forL_nxT]
    · rfl
    · intro i hi
      have hb : a + 1 + i < n := by omega
      unfold m_first_ring_b2
      have h1 := atI2 (R := le) ha hb
      have h2 := atI2 (R := le) hb ha
      rw [h1, h2]
      unfold andO
      cases e1 : le a (a + 1 + i) with
      | false => rfl
      | true =>
        cases e2 : le (a + 1 + i) a with
        | false => rfl
        | true => exact absurd (o.an _ _ ha hb e1 e2) (by omega)
theorem first_lack_eq {n : Nat} {j : Nat → Nat → Int} (hn : n ≤ 12) : m_first_lack (tab2 n fun a b => some (j a b)) = some none := by
  unfold m_first_lack
  rw [tab_len]
  simp only [Option.bind_eq_bind, Option.bind_some]
  rw [rngM0 (by omega)]
  simp only [Option.bind_some]
  rw [forL_nxT]
  · rfl
  · intro a ha
    unfold m_first_lack_b1
    rw [tab_len]
    simp only [Option.bind_eq_bind, Option.bind_some]
    rw [show (a : Int) + 1 = ((a + 1 : Nat) : Int) by simp, rngM1 (by omega) (by omega)]
    simp only [Option.bind_some]
    rw [forL_nxT]
    · rfl
    · intro i hi
      have hb : a + 1 + i < n := by omega
      unfold m_first_lack_b2
      have h1 := atI2 (R := fun a b => some (j a b)) ha hb
      rw [h1]
      rfl
theorem turned_eq {n : Nat} {le : Nat → Nat → Bool} (hn : n ≤ 12) : m_turned (tab2 n le) = some (tab2 n fun a b => le b a) := by
  unfold m_turned
  rw [tab_len, rngM0 (by omega)]
  simp only [Option.bind_eq_bind, Option.bind_some]
  rw [mapS_tab (g := fun a => tab n fun b => le b a) (by omega)]
  · rfl
  · intro a ha
    rw [mapS_tab (g := fun b => le b a) (by omega)]
    intro b hb
    exact atI2 hb ha
theorem Ord.op {n : Nat} {le : Nat → Nat → Bool} (o : Ord n le) : Ord n (fun a b => le b a) :=
  ⟨o.rf, fun a b ha hb h1 h2 => o.an a b ha hb h2 h1, fun a b c ha hb hc h1 h2 => o.tr c b a hc hb ha h2 h1⟩
theorem maxL_some : ∀ {xs : List Int}, xs ≠ [] → ∃ m, maxL xs = some m
  | [], h => absurd rfl h
  | [x], _ => ⟨x, rfl⟩
  | x :: y :: ys, _ => by
    obtain ⟨m, h⟩ := maxL_some (xs := y :: ys) (by simp)
    exact ⟨_, by unfold maxL; rw [h]; rfl⟩
theorem longest_some {n : Nat} {le : Nat → Nat → Bool} (hn : n ≤ 12) (h0 : 0 < n) : ∃ m, m_longest (tab2 n le) = some m := by
  unfold m_longest
  have hl : (tab2 n le).length = n := tab_len
  rw [mapS_map (g := fun _ => (0 : Int)) (by omega) (fun _ _ => rfl)]
  simp only [Option.bind_eq_bind, Option.bind_some]
  obtain ⟨s, e, hs⟩ := forS_keep (body := m_longest_b1 (tab2 n le)) (xs := tab2 n le) (k := 0) (I := fun _ (s : List Int) => s.length = n) (s := List.map (fun _ => (0 : Int)) (tab2 n le)) (by simp [tab_len]) (by
    intro x _ k s _ _ hs
    unfold m_longest_b1
    simp only [tab_len, Option.bind_eq_bind, Option.bind_some]
    rw [rngM0 (by omega)]
    simp only [Option.bind_some]
    obtain ⟨s2, e2, hs2⟩ := forS_keep (body := m_longest_b2 (tab2 n le)) (xs := tab n fun i => (i : Int)) (k := 0) (I := fun _ (s : List Int) => s.length = n) (s := s) hs (by
      intro x hx k s _ _ hs
      obtain ⟨a, ha, rfl⟩ := tab_mem.mp hx
      unfold m_longest_b2
      simp only [tab_len, Option.bind_eq_bind, Option.bind_some]
      rw [rngM0 (by omega)]
      simp only [Option.bind_some]
      obtain ⟨s3, e3, hs3⟩ := forS_keep (body := m_longest_b3 (a : Int) (tab2 n le)) (xs := tab n fun i => (i : Int)) (k := 0) (I := fun _ (s : List Int) => s.length = n) (s := s) hs (by
        intro x hx k s _ _ hs
        obtain ⟨b, hb, rfl⟩ := tab_mem.mp hx
        unfold m_longest_b3
        have h1 := atI2 (R := le) ha hb
        rw [h1]
        unfold andO
        have g1 := atI_nat (xs := s) (i := b) (by omega)
        have g2 := atI_nat (xs := s) (i := a) (by omega)
        cases e : ((a : Int) == (b : Int)) with
        | true => exact ⟨s, by simp, hs⟩
        | false =>
          cases e2 : le a b with
          | false => exact ⟨s, by simp, hs⟩
          | true =>
            simp only [Bool.not_false, Option.bind_eq_bind, Option.bind_some, cond_true, g1, g2]
            unfold setM
            rw [ixN_nat (by omega)]
            exact ⟨_, rfl, by simp [hs]⟩)
      rw [e3]
      exact ⟨s3, rfl, hs3⟩)
    rw [e2]
    exact ⟨s2, rfl, hs2⟩)
  rw [e]
  obtain ⟨m, hm⟩ := maxL_some (xs := s) (by intro q; subst q; simp at hs; omega)
  exact ⟨m, by simp only [Option.bind_some]; rw [hm]; rfl⟩
/-- a lattice of n places -/
structure Lat (n : Nat) (le : Nat → Nat → Bool) (j m : Nat → Nat → Nat) : Prop where
  lo : 1 ≤ n
  hi : n ≤ 12
  o : Ord n le
  j : Lub n le j
  m : Lub n (fun a b => le b a) m
structure IsOrd (n : Nat) (le : Nat → Nat → Bool) (j m : Nat → Nat → Nat) (o : m_Order) : Prop where
  above : o.f_above = tab2 n le
  joins : o.f_joins = tab2 n fun a b => some ((j a b : Nat) : Int)
  meets : o.f_meets = tab2 n fun a b => some ((m a b : Nat) : Int)
  members : o.f_members = tab n fun i => (i : Int)
  height : m_longest (tab2 n le) = some o.f_height
theorem Order_init_eq {n : Nat} {le : Nat → Nat → Bool} {j m : Nat → Nat → Nat} {ps : List (Int × Int)} (L : Lat n le j m) (g : Gens n le ps) : ∃ o, m_Order___init__ (n : Int) ps = some o ∧ IsOrd n le j m o := by
  have hn := L.hi
  have h0 := L.lo
  unfold m_Order___init__
  have e1 : ((decide ((n : Int) < 1)) || (decide ((12 : Int) < (n : Int)))) = false := by simp; omega
  rw [e1]
  simp only [Option.bind_eq_bind, bs, cond_false]
  rw [forS_un (body := m_Order___init___b1 (n : Int)) (by
    intro p hp
    obtain ⟨a, b, ha, hb, rfl⟩ := g.rg p hp
    unfold m_Order___init___b1
    simp only [Option.bind_eq_bind, bs]
    rw [forS_un]
    · rfl
    · intro x hx
      unfold m_Order___init___b2
      have : (decide (x < 0) || decide ((n : Int) ≤ x)) = false := by
        rcases List.mem_cons.mp hx with rfl | hx
        · simp; omega
        · rcases List.mem_cons.mp hx with rfl | hx
          · simp; omega
          · cases hx
      rw [this]; rfl)]
  simp only [bs]
  rw [closure_le hn L.o g]
  simp only [bs]
  rw [first_ring_eq hn L.o]
  simp only [bs, Option.isSome_none, cond_false]
  rw [bounds_eq hn L.o L.j]
  simp only [bs]
  rw [first_lack_eq hn]
  simp only [bs, Option.isSome_none, cond_false]
  rw [turned_eq hn]
  simp only [bs]
  rw [bounds_eq hn L.o.op L.m]
  simp only [bs]
  rw [first_lack_eq hn]
  simp only [bs, Option.isSome_none, cond_false]
  rw [rngM0 (by omega)]
  simp only [bs]
  obtain ⟨h, hh⟩ := longest_some (le := le) hn h0
  rw [hh]
  simp only [bs]
  refine ⟨⟨tab2 n le, _, _, _, h⟩, congrArg some (Eq.refl _), ?_⟩
  exact ⟨Eq.refl _, Eq.refl _, Eq.refl _, Eq.refl _, hh⟩
end My

namespace My
open PySem L2 Sim PyProof.Rows
/-! ### the pot -/
theorem draw_eq (pot : List Int) {n : Nat} (h : 0 < n) : ∃ (v : Nat) (pot' : List Int), m__law_draw pot (n : Int) = some ((v : Int), pot') ∧ v < n := by
  unfold m__law_draw
  cases e : ((pot.length : Int) == 0) with
  | true => exact ⟨0, pot, rfl, h⟩
  | false =>
    have h0 : 0 < pot.length := by rw [beq_eq_false_iff_ne] at e; omega
    simp only [Option.bind_eq_bind, bs, cond_false]
    unfold popM
    rw [List.getElem?_eq_getElem (show pot.length - 1 < pot.length by omega)]
    simp only [Option.bind_eq_bind, bs]
    unfold modM
    rw [if_pos (by omega)]
    have h1 := Int.emod_nonneg (pot[pot.length - 1]) (show (n : Int) ≠ 0 by omega)
    have h2 := Int.emod_lt_of_pos (pot[pot.length - 1]) (show (0 : Int) < n by omega)
    refine ⟨(pot[pot.length - 1] % (n : Int)).toNat, pot.dropLast, ?_, by omega⟩
    simp only [bs]
    rw [show (((pot[pot.length - 1] % (n : Int)).toNat : Nat) : Int) = pot[pot.length - 1] % (n : Int) by omega]
theorem draw_lit (pot : List Int) (n : Nat) (h : 0 < n) {z : Int} (hz : z = (n : Int)) : ∃ (v : Nat) (pot' : List Int), m__law_draw pot z = some ((v : Int), pot') ∧ v < n := by
  subst hz; exact draw_eq pot h
theorem pot_b2 {k : Nat} {x : Int} {s : List Int × Int} (h1 : s.1.length ≤ k) (hk : k < 100000) : ∃ s', m__law_pot_b2 x s = some s' ∧ s'.1.length ≤ k + 1 := by
  obtain ⟨p, r⟩ := s
  unfold m__law_pot_b2
  simp only [Option.bind_eq_bind, bs]
  have hd : fdivM r 100 = some (r / 100) := by unfold fdivM; rw [if_pos (by decide)]
  have hm : modM r 100 = some (r % 100) := by unfold modM; rw [if_pos (by decide)]
  have ha : appM p (r % 100) = some (p ++ [r % 100]) := by unfold appM; rw [sz_t (show p.length < 100000 from Nat.lt_of_le_of_lt h1 hk)]; rfl
  rw [hd, hm]
  have h1 : p.length ≤ k := h1
  cases (decide ((0 : Int) < r) || x == 0) with
  | true =>
    simp only [cond_true, bs, ha]
    exact ⟨_, rfl, by simp; exact h1⟩
  | false =>
    simp only [cond_false, bs]
    exact ⟨_, rfl, by simp; omega⟩
theorem pot_b1 {ns : List Int} {i k : Nat} {s : List Int} (hi : i < ns.length) (hi' : i < 63) (h1 : s.length ≤ k) (hk : k + 60 < 100000) : ∃ s', m__law_pot_b1 ns (i : Int) s = some s' ∧ s'.length ≤ k + 60 := by
  unfold m__law_pot_b1
  rw [atI_nat hi]
  simp only [Option.bind_eq_bind, bs]
  generalize hr : (if ns[i] < 0 then -ns[i] else ns[i]) = r
  have hr0 : 0 ≤ r := by rw [← hr]; split <;> omega
  have hp : powM 10 18 = some 1000000000000000000 := by decide
  rw [hp]
  simp only [bs]
  have loop : ∀ (m : Nat) (r : Int), m ≤ 60 → ∃ s', ((rngM 0 (m : Int)).bind fun xs1671 => (forS m__law_pot_b2 xs1671 (s, r)).bind fun s1676 => some s1676.1) = some s' ∧ s'.length ≤ k + 60 := by
    intro m r hm
    rw [rngM0 (by omega)]
    simp only [bs]
    obtain ⟨t, e, ht⟩ := forS_keep (body := m__law_pot_b2) (xs := tab m fun i => (i : Int)) (k := k) (I := fun j (s : List Int × Int) => s.1.length ≤ j) (s := (s, r)) h1 (by
      intro x _ j s hj hj' hs
      rw [tab_len] at hj'
      exact pot_b2 hs (by omega))
    rw [e]
    rw [tab_len] at ht
    exact ⟨_, rfl, by omega⟩
  cases e : decide (r < 1000000000000000000) with
  | false =>
    simp only [cond_false, bs]
    obtain ⟨s', e2, h2⟩ := loop 60 r (by omega)
    exact ⟨s', e2, h2⟩
  | true =>
    have hr1 : r < 1000000000000000000 := of_decide_eq_true e
    simp only [cond_true, bs]
    have k1 : mulM 2 r = some (2 * r) := by unfold mulM; rw [if_pos (by omega)]
    have k2 : mulM 2 (i : Int) = some (2 * (i : Int)) := by unfold mulM; rw [if_pos (by omega)]
    have k3 : ∀ z, mulM z (48271 + 2 * (i : Int)) = some (z * (48271 + 2 * (i : Int))) := fun z => by unfold mulM; rw [if_pos (by omega)]
    rw [k1, k2]
    simp only [bs]
    rw [k3]
    simp only [bs]
    have k4 : ∀ z, modM z 2147483647 = some (z % 2147483647) := fun z => by unfold modM; rw [if_pos (by decide)]
    have k5 : ∀ z, modM z 2147483629 = some (z % 2147483629) := fun z => by unfold modM; rw [if_pos (by decide)]
    rw [k4]
    simp only [bs]
    generalize hq : ((2 * r + if decide (ns[i] < 0) = true then (1 : Int) else 0) * (48271 + 2 * (i : Int))) % 2147483647 = q
    have q0 : 0 ≤ q := by rw [← hq]; exact Int.emod_nonneg _ (by decide)
    have q1 : q < 2147483647 := by rw [← hq]; exact Int.emod_lt_of_pos _ (by decide)
    have k6 : mulM q q = some (q * q) := by unfold mulM; rw [if_pos (by omega)]
    have k7 : mulM q (i : Int) = some (q * (i : Int)) := by unfold mulM; rw [if_pos (by omega)]
    rw [k6, k7]
    simp only [bs]
    rw [k5]
    simp only [bs]
    obtain ⟨s', e2, h2⟩ := loop 4 ((q * q + q * (i : Int)) % 2147483629) (by omega)
    exact ⟨s', e2, h2⟩
theorem pot_eq (ns : List Int) : ∃ p, m__law_pot ns = some p := by
  unfold m__law_pot
  simp only [Option.bind_eq_bind, bs]
  have hn : ∃ n : Nat, (if (63 : Int) < (ns.length : Int) then (63 : Int) else (ns.length : Int)) = (n : Int) ∧ n ≤ 63 ∧ n ≤ ns.length := by
    split
    · exact ⟨63, rfl, by omega, by omega⟩
    · exact ⟨ns.length, rfl, by omega, by omega⟩
  obtain ⟨n, e, h1, h2⟩ := hn
  rw [e, rngM0 (by omega)]
  simp only [bs]
  obtain ⟨t, e, ht⟩ := forS_keep (body := m__law_pot_b1 ns) (xs := tab n fun i => (i : Int)) (k := 0) (I := fun j (s : List Int) => s.length ≤ j * 60) (s := []) (by simp) (by
    intro x hx j s hj hj' hs
    rw [tab_len] at hj'
    obtain ⟨i, hi, rfl⟩ := tab_mem.mp hx
    obtain ⟨s', e1, h1⟩ := pot_b1 (ns := ns) (i := i) (k := j * 60) (s := s) (by omega) (by omega) hs (by omega)
    exact ⟨s', e1, by omega⟩)
  rw [e]
  exact ⟨_, rfl⟩

end My

namespace My
theorem sel {α β γ : Type} {f : α → γ} {g : β → γ} {a : α} : Sum.elim f g (Sum.inl a) = f a := Eq.trans (Eq.refl _) (Eq.refl _)
theorem ctr {α : Type} {a b : α} : (bif true then a else b) = a := Eq.trans (Eq.refl _) (Eq.refl _)
theorem cfa {α : Type} {a b : α} : (bif false then a else b) = b := Eq.trans (Eq.refl _) (Eq.refl _)
end My

namespace My
open PySem L2 Sim PyProof.Rows
/-! ### names -/
theorem addS_ok {x y : Str} (h : x.length + y.length < 100000) : addS x y = some (x ++ y) := by unfold addS; rw [decide_eq_true h]; rfl
theorem len1 (c : Nat) : (⟨#[c]⟩ : Str).length = 1 := rfl
theorem mulS_ok (c : Nat) {v : Nat} (h : v < 4) : ∃ z, mulS ⟨#[c]⟩ (v : Int) = some z ∧ z.length ≤ 3 := by
  have hc : decide ((v : Int) < 100 ∧ -100 < (v : Int) ∧ (⟨#[c]⟩ : Str).length < 1000) = true := by
    rw [len1]; exact decide_eq_true ⟨by omega, by omega, by omega⟩
  unfold mulS
  rw [hc]
  refine ⟨_, rfl, ?_⟩
  rcases v with _ | _ | _ | _ | v
  · show 0 ≤ 3
    omega
  · show 1 ≤ 3
    omega
  · show 2 ≤ 3
    omega
  · show 3 ≤ 3
    omega
  · omega
theorem sgl : ("abcdefghijklmnopqrstuvwxyzABCDEFGHIJKLMNOPQRSTUVWXYZ0123456789" : Str).cps.toList.length = 62 := by decide +kernel
theorem ixS_ok {v : Nat} (h : v < 62) : ∃ c, ixS ("abcdefghijklmnopqrstuvwxyzABCDEFGHIJKLMNOPQRSTUVWXYZ0123456789" : Str) (v : Int) = some ⟨#[c]⟩ := by
  unfold ixS
  have e : ("abcdefghijklmnopqrstuvwxyzABCDEFGHIJKLMNOPQRSTUVWXYZ0123456789" : Str).length = 62 := by
    rw [← sgl]; rfl
  rw [e, decide_eq_true (by omega), ctr, atI_nat (by rw [sgl]; exact h)]
  exact ⟨_, rfl⟩
theorem any_mem {s : List Str} {z : Str} : (s.any fun y => y == z) = decide (z ∈ s) := by
  by_cases h : z ∈ s
  · rw [decide_eq_true h, List.any_eq_true]
    exact ⟨z, h, by simp⟩
  · rw [decide_eq_false h, List.any_eq_false]
    intro y hy
    simp
    rintro rfl
    exact h hy
/-- short, or with an x at its end -/
def Pr (z : Str) : Prop := z.length ≤ 4 ∨ z.cps.toList.getLast? = some 120
/-- what is known of a name behind j tries -/
def Nm (ns : List Str) (j : Nat) (z : Str) : Prop := Pr z ∧ z.length ≤ 10 + j ∧ (z ∉ ns ∨ ∃ l : List Str, l.Nodup ∧ l.length = j ∧ ∀ y ∈ l, y ∈ ns ∧ y.length < z.length)
theorem names_b2 {s : List Str × List Int} {x : Int} {j : Nat} {z : Str} (hj : j < 1000) (h : Nm s.1 j z) : ∃ z', m__law_names_b2 s x z = some z' ∧ Nm s.1 (j + 1) z' := by
  unfold m__law_names_b2
  simp only [Option.bind_eq_bind, bs]
  rw [any_mem]
  obtain ⟨h0, h1, h2⟩ := h
  by_cases hz : z ∈ s.1
  · have hx : ("x" : Str).length = 1 := rfl
    rw [decide_eq_true hz, ctr, addS_ok (by rw [hx]; omega)]
    simp only [bs]
    have hl : (z ++ ("x" : Str)).length = z.length + 1 := by rw [PySem.Str.length_append, hx]
    refine ⟨_, rfl, .inr (show (z.cps ++ #[120]).toList.getLast? = some 120 by simp), by rw [hl]; omega, .inr ?_⟩
    rcases h2 with h2 | ⟨l, l1, l2, l3⟩
    · exact absurd hz h2
    · refine ⟨z :: l, List.nodup_cons.mpr ⟨fun hm => absurd (l3 z hm).2 (Nat.lt_irrefl _), l1⟩, by rw [List.length_cons, l2], fun y hy => ?_⟩
      rw [hl]
      rcases List.mem_cons.mp hy with rfl | hy
      · exact ⟨hz, by omega⟩
      · exact ⟨(l3 y hy).1, by have := (l3 y hy).2; omega⟩
  · rw [decide_eq_false hz, cfa]
    exact ⟨_, rfl, h0, by omega, .inl hz⟩
theorem names_eqL (pot : List Int) {many : Nat} (hm : many ≤ 100) : ∃ ns pot', m__law_names pot (many : Int) = some (ns, pot') ∧ ns.Nodup ∧ ns.length = many ∧ ∀ y ∈ ns, Pr y ∧ y.length ≤ 200 := by
  unfold m__law_names
  simp only [Option.bind_eq_bind, bs]
  rw [rngM0 (by omega)]
  simp only [bs]
  suffices h : ∀ (k i : Nat) (s : List Str × List Int), i + k = many → s.1.Nodup → s.1.length = i → (∀ y ∈ s.1, Pr y ∧ y.length ≤ 200) → ∃ s', forS (m__law_names_b1 ("abcdefghijklmnopqrstuvwxyzABCDEFGHIJKLMNOPQRSTUVWXYZ0123456789" : Str)) ((List.range' i k).map fun i : Nat => (i : Int)) s = some s' ∧ s'.1.Nodup ∧ s'.1.length = many ∧ ∀ y ∈ s'.1, Pr y ∧ y.length ≤ 200 by
    obtain ⟨s', e, h1, h2⟩ := h many 0 ([], pot) (by omega) List.nodup_nil rfl (fun y hy => (nomatch hy))
    have e' : forS (m__law_names_b1 ("abcdefghijklmnopqrstuvwxyzABCDEFGHIJKLMNOPQRSTUVWXYZ0123456789" : Str)) (tab many fun i => (i : Int)) ([], pot) = some s' := by
      unfold tab
      rw [List.range_eq_range']
      exact e
    rw [e']
    exact ⟨_, _, rfl, h1, h2⟩
  intro k
  induction k with
  | zero => intro i s hi h1 h2 h0; exact ⟨s, rfl, h1, by omega, h0⟩
  | succ k ih =>
    intro i s hi h1 h2 h0
    obtain ⟨ns, p⟩ := s
    replace h0 : ∀ y ∈ ns, Pr y ∧ y.length ≤ 200 := h0
    replace h1 : ns.Nodup := h1
    replace h2 : ns.length = i := h2
    show ∃ s', (m__law_names_b1 _ (i : Int) (ns, p) >>= forS (m__law_names_b1 _) ((List.range' (i + 1) k).map fun i : Nat => (i : Int))) = some s' ∧ _
    have step : ∃ s', m__law_names_b1 ("abcdefghijklmnopqrstuvwxyzABCDEFGHIJKLMNOPQRSTUVWXYZ0123456789" : Str) (i : Int) (ns, p) = some s' ∧ s'.1.Nodup ∧ s'.1.length = i + 1 ∧ ∀ y ∈ s'.1, Pr y ∧ y.length ≤ 200 := by
      unfold m__law_names_b1
      simp only [Option.bind_eq_bind, bs]
      obtain ⟨a, p1, e, ha⟩ := draw_lit p 62 (by decide) (z := 62) rfl
      rw [e]
      simp only [bs]
      obtain ⟨c, e⟩ := ixS_ok ha
      rw [e]
      simp only [bs]
      obtain ⟨b, p2, e, hb⟩ := draw_lit p1 4 (by decide) (z := 4) rfl
      rw [e]
      simp only [bs]
      obtain ⟨z, e, hz⟩ := mulS_ok c hb
      rw [e]
      simp only [bs]
      obtain ⟨a', p3, e, ha'⟩ := draw_lit p2 62 (by decide) (z := 62) rfl
      rw [e]
      simp only [bs]
      obtain ⟨c', e⟩ := ixS_ok ha'
      rw [e]
      simp only [bs]
      rw [addS_ok (by rw [len1]; omega)]
      simp only [bs]
      rw [rngM0 (by omega)]
      simp only [bs]
      obtain ⟨z', e, h30, h3, h4⟩ := forS_keep (body := m__law_names_b2 (ns, p)) (xs := tab i fun i => (i : Int)) (k := 0) (I := Nm ns) (s := z ++ ⟨#[c']⟩) ⟨.inl (by rw [PySem.Str.length_append, len1]; omega), by rw [PySem.Str.length_append, len1]; omega, .inr ⟨[], List.nodup_nil, rfl, fun y hy => by cases hy⟩⟩ (fun x _ j s _ hj hs => names_b2 (s := (ns, p)) (by rw [tab_len] at hj; omega) hs)
      rw [e]
      simp only [bs]
      have h5 : z' ∉ ns := by
        rcases h4 with h4 | ⟨l, l1, l2, l3⟩
        · exact h4
        · intro hz'
          have := lsub (l := z' :: l) (l2 := ns) (List.nodup_cons.mpr ⟨fun hm => absurd (l3 z' hm).2 (Nat.lt_irrefl _), l1⟩) (fun y hy => by
            rcases List.mem_cons.mp hy with rfl | hy
            · exact hz'
            · exact (l3 y hy).1)
          rw [List.length_cons, l2, tab_len, h2] at this
          omega
      unfold appM
      rw [sz_t (by omega)]
      refine ⟨_, rfl, ?_, by simp [h2], fun y hy => ?_⟩
      · show (ns ++ [z']).Nodup
        rw [List.nodup_append]
        exact ⟨h1, by simp, fun x hx y hy => by
          rw [List.mem_singleton] at hy
          subst hy
          exact fun e => h5 (e ▸ hx)⟩
      · rcases List.mem_append.mp hy with hy | hy
        · exact h0 y hy
        · rw [List.mem_singleton.mp hy]
          exact ⟨h30, by rw [tab_len] at h3; omega⟩
    obtain ⟨s1, e, n1, n2, n3⟩ := step
    rw [e]
    exact ih (i + 1) s1 (by omega) n1 n2 n3
theorem names_eq (pot : List Int) {many : Nat} (hm : many ≤ 100) : ∃ ns pot', m__law_names pot (many : Int) = some (ns, pot') ∧ ns.Nodup ∧ ns.length = many := by
  obtain ⟨ns, p, e, h1, h2, _⟩ := names_eqL pot hm
  exact ⟨ns, p, e, h1, h2⟩
/-! ### tables -/
section
variable {α : Type}
theorem look_nd : ∀ {d : List (Str × α)} {k : Str} {x : α}, (d.map (·.1)).Nodup → (k, x) ∈ d → lookM d k = some x
  | q :: d, k, x, nd, h => by
    obtain ⟨n1, n2⟩ := List.nodup_cons.mp nd
    unfold lookM
    rw [List.find?_cons]
    rcases List.mem_cons.mp h with rfl | h
    · rw [decide_eq_true rfl]; rfl
    · have hne : ¬ q.1 = k := fun e => n1 (List.mem_map.mpr ⟨(k, x), h, e.symm⟩)
      rw [decide_eq_false hne]
      exact look_nd n2 h
theorem putMM_ok {d : List (Str × α)} {k : Str} {x : α} (h : d.length < 100000) : putMM d k x = some (putM d k x) := by unfold putMM; rw [decide_eq_true h]; rfl
end
end My

namespace My
open PySem L2 Sim PyProof.Rows
/-! ### the pot -/
/-! ### the masks -/
def nts (ms : List Nat) : List Int := ms.map (fun k : Nat => (k : Int))
theorem bitAnd_nat (x y : Nat) : Builtin.bitAnd (x : Int) (y : Int) = ((x &&& y : Nat) : Int) := by
  rw [bitAnd_pp (by omega) (by omega)]; simp
theorem mem_nts {x : Nat} {ms : List Nat} : (x : Int) ∈ nts ms ↔ x ∈ ms := by
  unfold nts
  rw [List.mem_map]
  constructor
  · rintro ⟨k, hk, e⟩
    have : k = x := by omega
    subst this; exact hk
  · intro h; exact ⟨x, h, rfl⟩
theorem nts_len {ms : List Nat} : (nts ms).length = ms.length := by simp [nts]
theorem len_sub {α : Type} [BEq α] [LawfulBEq α] : ∀ {l l2 : List α}, l.Nodup → (∀ x ∈ l, x ∈ l2) → l.length ≤ l2.length
  | [], _, _, _ => Nat.zero_le _
  | x :: xs, l2, h, hs => by
    have hx := hs x (List.mem_cons_self ..)
    obtain ⟨h1, h2⟩ := List.nodup_cons.mp h
    have := len_sub (l := xs) (l2 := l2.erase x) h2 fun y hy => by
      have hne : y ≠ x := fun e => h1 (e ▸ hy)
      exact (List.mem_erase_of_ne hne).mpr (hs y (List.mem_cons_of_mem _ hy))
    rw [List.length_erase_of_mem hx] at this
    have := List.length_pos_of_mem hx
    simp only [List.length_cons]
    omega
theorem nodup_len {ms : List Nat} (h : ms.Nodup) (hl : ∀ x ∈ ms, x < 32) : ms.length ≤ 32 := by
  have := len_sub h (l2 := List.range 32) (fun x hx => List.mem_range.mpr (hl x hx))
  simpa using this
/-- all & v added -/
def addAll (v : Nat) : List Nat → List Nat → List Nat
  | [], s => s
  | x :: xs, s => addAll v xs (if x &&& v ∈ s then s else s ++ [x &&& v])
theorem addAll_mem {v : Nat} : ∀ {xs s : List Nat} {z : Nat}, z ∈ addAll v xs s ↔ z ∈ s ∨ ∃ x ∈ xs, x &&& v = z
  | [], s, z => by simp [addAll]
  | x :: xs, s, z => by
    unfold addAll
    rw [addAll_mem]
    split
    · rename_i h
      constructor
      · rintro (h1 | ⟨y, hy, rfl⟩)
        · exact Or.inl h1
        · exact Or.inr ⟨y, List.mem_cons_of_mem _ hy, rfl⟩
      · rintro (h1 | ⟨y, hy, rfl⟩)
        · exact Or.inl h1
        · rcases List.mem_cons.mp hy with rfl | hy
          · exact Or.inl h
          · exact Or.inr ⟨y, hy, rfl⟩
    · constructor
      · rintro (h1 | ⟨y, hy, rfl⟩)
        · rcases List.mem_append.mp h1 with h1 | h1
          · exact Or.inl h1
          · rw [List.mem_singleton] at h1
            exact Or.inr ⟨x, List.mem_cons_self .., h1.symm⟩
        · exact Or.inr ⟨y, List.mem_cons_of_mem _ hy, rfl⟩
      · rintro (h1 | ⟨y, hy, rfl⟩)
        · exact Or.inl (List.mem_append_left _ h1)
        · rcases List.mem_cons.mp hy with rfl | hy
          · exact Or.inl (List.mem_append_right _ (List.mem_singleton.mpr rfl))
          · exact Or.inr ⟨y, hy, rfl⟩
theorem addAll_nd {v : Nat} : ∀ {xs s : List Nat}, s.Nodup → (addAll v xs s).Nodup
  | [], s, h => h
  | x :: xs, s, h => by
    unfold addAll
    split
    · exact addAll_nd h
    · rename_i hx
      exact addAll_nd (by
        rw [List.nodup_append]
        refine ⟨h, by simp, fun a ha b hb e => ?_⟩
        rw [List.mem_singleton] at hb
        subst hb; subst e
        exact hx ha)
theorem addAll_lt {v : Nat} {xs s : List Nat} (h : ∀ x ∈ s, x < 32) (hv : v < 32) : ∀ x ∈ addAll v xs s, x < 32 := by
  intro z hz
  rcases addAll_mem.mp hz with h1 | ⟨x, _, rfl⟩
  · exact h z h1
  · exact Nat.lt_of_le_of_lt Nat.and_le_right hv
theorem addAll_masks {v : Nat} {ms : List Nat} (h : Masks ms) (hv : v < 32) : Masks (addAll v ms ms) := by
  refine ⟨addAll_nd h.nd, addAll_lt h.lt hv, addAll_mem.mpr (Or.inl h.top), fun x hx y hy => ?_⟩
  refine addAll_mem.mpr ?_
  rcases addAll_mem.mp hx with h1 | ⟨a, ha, rfl⟩ <;> rcases addAll_mem.mp hy with h2 | ⟨b, hb, rfl⟩
  · exact Or.inl (h.cl _ h1 _ h2)
  · exact Or.inr ⟨x &&& b, h.cl _ h1 _ hb, Nat.and_assoc ..⟩
  · exact Or.inr ⟨a &&& y, h.cl _ ha _ h2, by rw [Nat.and_assoc, Nat.and_assoc, Nat.and_comm y v]⟩
  · refine Or.inr ⟨a &&& b, h.cl _ ha _ hb, ?_⟩
    rw [Nat.and_assoc, Nat.and_assoc, ← Nat.and_assoc v b v, Nat.and_comm v b, Nat.and_assoc b v v, Nat.and_self]
theorem masks_b2 {v : Nat} {pp : List Int} (hv : v < 32) : ∀ {xs s : List Nat}, s.Nodup → (∀ x ∈ s, x < 32) → forS (m__law_masks_b2 ((v : Int), pp)) (nts xs) (nts s) = some (nts (addAll v xs s))
  | [], s, _, _ => rfl
  | x :: xs, s, h, hl => by
    have ih : ∀ {s : List Nat}, s.Nodup → (∀ x ∈ s, x < 32) → forS (m__law_masks_b2 ((v : Int), pp)) (nts xs) (nts s) = some (nts (addAll v xs s)) := fun h1 h2 => masks_b2 hv h1 h2
    show (m__law_masks_b2 ((v : Int), pp) (x : Int) (nts s) >>= forS (m__law_masks_b2 ((v : Int), pp)) (nts xs)) = _
    have h1 := addAll_nd (v := v) (xs := [x]) h
    have h2 := addAll_lt (v := v) (xs := [x]) hl hv
    unfold addAll at h1 h2
    unfold addAll at h1 h2
    unfold addAll
    have e : m__law_masks_b2 ((v : Int), pp) (x : Int) (nts s) = some (nts (if x &&& v ∈ s then s else s ++ [x &&& v])) := by
      unfold m__law_masks_b2
      simp only [Option.bind_eq_bind, bs, bitAnd_nat]
      have hm : ((nts s).any fun z => z == ((x &&& v : Nat) : Int)) = decide (x &&& v ∈ s) := by
        cases q : ((nts s).any fun z => z == ((x &&& v : Nat) : Int)) with
        | true =>
          rw [List.any_eq_true] at q
          obtain ⟨z, hz, e⟩ := q
          rw [beq_iff_eq] at e; subst e
          simp [mem_nts.mp hz]
        | false =>
          have : x &&& v ∉ s := fun hx => by
            rw [List.any_eq_false] at q
            exact q _ (mem_nts.mpr hx) (by simp)
          simp [this]
      rw [hm]
      by_cases q : x &&& v ∈ s
      · simp [q]
      · have := nodup_len h hl
        simp only [q, decide_false, Bool.not_false, cond_true, if_false]
        unfold appM
        rw [sz_t (by rw [nts_len]; omega)]
        simp [nts]
    rw [e]
    exact ih h1 h2
structure MSt (most : Nat) (s : List Int × List Int) : Prop where
  ex : ∃ ms, Masks ms ∧ s.1 = nts ms ∧ ms.length ≤ most
theorem masks_b1 {most : Nat} {x : Int} {s : List Int × List Int} (h : MSt most s) : ∃ s', m__law_masks_b1 (most : Int) x s = some s' ∧ MSt most s' := by
  obtain ⟨m, p⟩ := s
  obtain ⟨ms, h1, rfl, h2⟩ := h.ex
  unfold m__law_masks_b1
  simp only [Option.bind_eq_bind, bs]
  obtain ⟨v, pot', e, hv⟩ := draw_lit p 32 (by decide) (z := 32) rfl
  rw [e]
  simp only [bs]
  rw [masks_b2 hv h1.nd h1.lt]
  simp only [bs, nts_len]
  by_cases q : (addAll v ms ms).length ≤ most
  · have : decide (((addAll v ms ms).length : Int) ≤ (most : Int)) = true := by simp; exact q
    rw [this]
    exact ⟨_, rfl, ⟨_, addAll_masks h1 hv, rfl, q⟩⟩
  · have : decide (((addAll v ms ms).length : Int) ≤ (most : Int)) = false := by simp; omega
    rw [this]
    exact ⟨_, rfl, ⟨_, h1, rfl, h2⟩⟩
theorem masks_b3 {xs : List Int} {k : Nat} {x : Int} {s : List Int × (List Int × List Int)} (hk : k < xs.length) (hl : xs.length < 100) (h : (s.1 ++ s.2.2).Perm xs ∧ s.1.length = k) :
    ∃ s', m__law_masks_b3 x s = some s' ∧ (s'.1 ++ s'.2.2).Perm xs ∧ s'.1.length = k + 1 := by
  obtain ⟨a, p, r⟩ := s
  obtain ⟨h1, h2⟩ := h
  have h1 : (a ++ r).Perm xs := h1
  have h2 : a.length = k := h2
  have hr := h1.length_eq
  rw [List.length_append] at hr
  unfold m__law_masks_b3
  simp only [Option.bind_eq_bind, bs]
  obtain ⟨v, pot', e, hv⟩ := draw_eq p (n := r.length) (by omega)
  rw [e]
  simp only [bs]
  rw [popAt_eq hv (by omega)]
  simp only [bs]
  unfold appM
  rw [sz_t (by omega)]
  refine ⟨_, rfl, ?_, by simp [h2]⟩
  show ((a ++ [r[v]]) ++ r.eraseIdx v).Perm xs
  refine (List.Perm.trans ?_ h1)
  rw [List.append_assoc]
  exact List.Perm.append_left a (perm_erase hv).symm
theorem Masks.perm {ms ms' : List Nat} (h : Masks ms) (p : ms'.Perm ms) : Masks ms' :=
  ⟨p.nodup_iff.mpr h.nd, fun x hx => h.lt x (p.mem_iff.mp hx), p.mem_iff.mpr h.top, fun x hx y hy => p.mem_iff.mpr (h.cl x (p.mem_iff.mp hx) y (p.mem_iff.mp hy))⟩
theorem perm_nts {xs : List Int} {ms : List Nat} (p : xs.Perm (nts ms)) : ∃ ms', xs = nts ms' ∧ ms'.Perm ms := by
  refine ⟨xs.map Int.toNat, ?_, ?_⟩
  · unfold nts
    rw [List.map_map]
    have : ∀ x ∈ xs, (((fun k : Nat => (k : Int)) ∘ Int.toNat) x) = x := fun x hx => by
      obtain ⟨k, _, rfl⟩ := List.mem_map.mp (p.mem_iff.mp hx)
      simp
    rw [List.map_congr_left this]
    simp
  · have := p.map Int.toNat
    unfold nts at this
    rw [List.map_map] at this
    have e : (Int.toNat ∘ fun k : Nat => (k : Int)) = id := by funext k; simp
    rw [e, List.map_id] at this
    exact this
theorem masks_eq (pot : List Int) {most : Nat} (hm : 1 ≤ most) : ∃ ms pot', m__law_masks pot (most : Int) = some (nts ms, pot') ∧ Masks ms ∧ ms.length ≤ most := by
  unfold m__law_masks
  simp only [Option.bind_eq_bind, bs]
  obtain ⟨v, p1, e, hv⟩ := draw_lit pot 6 (by decide) (z := 6) rfl
  rw [e]
  simp only [bs]
  have e2 : modM ((v : Int) + 1) 6 = some (((v + 1) % 6 : Nat) : Int) := by
    unfold modM
    rw [if_pos (by decide)]
    simp
  rw [e2]
  simp only [bs]
  rw [rngM0 (by omega)]
  simp only [bs]
  obtain ⟨s, e3, h3⟩ := forS_keep (body := m__law_masks_b1 (most : Int)) (xs := tab ((v + 1) % 6) fun i => (i : Int)) (k := 0) (I := fun _ s => MSt most s) (s := ([31], p1)) ⟨[31], ⟨by simp, by simp, by simp, by simp⟩, rfl, hm⟩ (fun x _ j s _ _ hs => masks_b1 hs)
  rw [e3]
  simp only [bs]
  obtain ⟨m, p2⟩ := s
  obtain ⟨ms, h4, rfl, h5⟩ := h3.ex
  have h6 := nodup_len h4.nd h4.lt
  rw [nts_len, if_pos (by omega)]
  simp only [bs]
  have hp := srtI_perm (nts ms)
  have hl := hp.length_eq
  rw [nts_len] at hl
  rw [hl, rngM0 (by omega)]
  simp only [bs]
  obtain ⟨s, e7, h7⟩ := forS_keep (body := m__law_masks_b3) (xs := tab ms.length fun i => (i : Int)) (k := 0) (I := fun j (s : List Int × (List Int × List Int)) => (s.1 ++ s.2.2).Perm (srtI (nts ms)) ∧ s.1.length = j) (s := ([], (p2, srtI (nts ms)))) ⟨by simp, rfl⟩ (by
    intro x _ j s _ hj hs
    rw [tab_len] at hj
    exact masks_b3 (by omega) (by omega) hs)
  rw [e7]
  simp only [bs]
  obtain ⟨a, p3, r⟩ := s
  obtain ⟨h8, h9⟩ := h7
  have h8 : (a ++ r).Perm (srtI (nts ms)) := h8
  have h9 : a.length = 0 + (tab ms.length fun i => (i : Int)).length := h9
  rw [tab_len] at h9
  have h10 := h8.length_eq
  rw [List.length_append] at h10
  have : r = [] := List.length_eq_zero_iff.mp (by omega)
  subst this
  rw [List.append_nil] at h8
  obtain ⟨ms', rfl, h11⟩ := perm_nts (h8.trans hp)
  exact ⟨ms', p3, rfl, h4.perm h11, by rw [h11.length_eq]; exact h5⟩

/-! ### the order of the masks -/
def mle (ms : List Nat) (a b : Nat) : Bool := (ms.getD a 0 &&& ms.getD b 0) == ms.getD a 0
def mmeet (ms : List Nat) (a b : Nat) : Nat := ms.idxOf (ms.getD a 0 &&& ms.getD b 0)
def andAll : List Nat → Nat
  | [] => 31
  | x :: xs => x &&& andAll xs
def mjoin (ms : List Nat) (a b : Nat) : Nat := ms.idxOf (andAll (ms.filter fun z => (ms.getD a 0 &&& z == ms.getD a 0) && (ms.getD b 0 &&& z == ms.getD b 0)))
theorem getD_mem {ms : List Nat} {a : Nat} (h : a < ms.length) : ms.getD a 0 ∈ ms := by
  rw [List.getD_eq_getElem?_getD, List.getElem?_eq_getElem h]; exact List.getElem_mem h
theorem getD_inj {ms : List Nat} (hd : ms.Nodup) {a b : Nat} (ha : a < ms.length) (hb : b < ms.length) (h : ms.getD a 0 = ms.getD b 0) : a = b := by
  rw [List.getD_eq_getElem?_getD, List.getD_eq_getElem?_getD, List.getElem?_eq_getElem ha, List.getElem?_eq_getElem hb] at h
  exact (List.getElem_inj hd).mp h
theorem getD_idx {ms : List Nat} {x : Nat} (h : x ∈ ms) : ms.idxOf x < ms.length ∧ ms.getD (ms.idxOf x) 0 = x := by
  have := List.idxOf_lt_length_of_mem h
  refine ⟨this, ?_⟩
  rw [List.getD_eq_getElem?_getD, List.getElem?_eq_getElem this]
  exact List.getElem_idxOf this
theorem andAll_mem {ms : List Nat} (h : Masks ms) : ∀ {xs : List Nat}, (∀ x ∈ xs, x ∈ ms) → andAll xs ∈ ms
  | [], _ => h.top
  | x :: xs, hx => h.cl _ (hx x (List.mem_cons_self ..)) _ (andAll_mem h fun y hy => hx y (List.mem_cons_of_mem _ hy))
theorem andAll_le {xs : List Nat} : ∀ {x : Nat}, x ∈ xs → andAll xs &&& x = andAll xs := by
  induction xs with
  | nil => intro x h; cases h
  | cons y ys ih =>
    intro x h
    unfold andAll
    rcases List.mem_cons.mp h with rfl | h
    · rw [Nat.and_comm x (andAll ys), Nat.and_assoc, Nat.and_self]
    · rw [Nat.and_assoc, ih h]
theorem le_andAll {a : Nat} (ha : a < 32) : ∀ {xs : List Nat}, (∀ x ∈ xs, a &&& x = a) → a &&& andAll xs = a
  | [], _ => by
    have : a % 2 ^ 5 = a := Nat.mod_eq_of_lt ha
    rw [← Nat.and_two_pow_sub_one_eq_mod] at this
    exact this
  | x :: xs, h => by
    show a &&& (x &&& andAll xs) = a
    rw [← Nat.and_assoc, h x (List.mem_cons_self ..), le_andAll ha fun y hy => h y (List.mem_cons_of_mem _ hy)]
theorem mOrd {ms : List Nat} (h : Masks ms) : Ord ms.length (mle ms) where
  rf a _ := by unfold mle; rw [Nat.and_self]; simp
  an a b ha hb h1 h2 := by
    unfold mle at h1 h2
    rw [beq_iff_eq] at h1 h2
    rw [Nat.and_comm] at h2
    exact getD_inj h.nd ha hb (h1.symm.trans h2)
  tr a b c ha hb hc h1 h2 := by
    unfold mle at h1 h2 ⊢
    rw [beq_iff_eq] at h1 h2 ⊢
    rw [← h1, Nat.and_assoc, h2]
theorem mMeet {ms : List Nat} (h : Masks ms) : Lub ms.length (fun a b => mle ms b a) (mmeet ms) where
  lt a b ha hb := (getD_idx (h.cl _ (getD_mem ha) _ (getD_mem hb))).1
  l a b ha hb := by
    unfold mle mmeet
    rw [(getD_idx (h.cl _ (getD_mem ha) _ (getD_mem hb))).2, beq_iff_eq, Nat.and_comm (ms.getD a 0), Nat.and_assoc, Nat.and_self]
  r a b ha hb := by
    unfold mle mmeet
    rw [(getD_idx (h.cl _ (getD_mem ha) _ (getD_mem hb))).2, beq_iff_eq, Nat.and_assoc, Nat.and_self]
  le a b c ha hb hc h1 h2 := by
    unfold mle mmeet at *
    rw [(getD_idx (h.cl _ (getD_mem ha) _ (getD_mem hb))).2]
    rw [beq_iff_eq] at *
    rw [← Nat.and_assoc, h1, h2]
theorem mJoin {ms : List Nat} (h : Masks ms) : Lub ms.length (mle ms) (mjoin ms) := by
  have hm : ∀ a b, andAll (ms.filter fun z => (ms.getD a 0 &&& z == ms.getD a 0) && (ms.getD b 0 &&& z == ms.getD b 0)) ∈ ms := fun a b => andAll_mem h fun x hx => (List.mem_filter.mp hx).1
  have hu : ∀ a b x, x ∈ (ms.filter fun z => (ms.getD a 0 &&& z == ms.getD a 0) && (ms.getD b 0 &&& z == ms.getD b 0)) ↔ x ∈ ms ∧ ms.getD a 0 &&& x = ms.getD a 0 ∧ ms.getD b 0 &&& x = ms.getD b 0 := fun a b x => by
    rw [List.mem_filter]; simp
  refine ⟨fun a b ha hb => (getD_idx (hm a b)).1, fun a b ha hb => ?_, fun a b ha hb => ?_, fun a b c ha hb hc h1 h2 => ?_⟩
  · unfold mle mjoin
    rw [(getD_idx (hm a b)).2, beq_iff_eq]
    exact le_andAll (h.lt _ (getD_mem ha)) fun x hx => ((hu a b x).mp hx).2.1
  · unfold mle mjoin
    rw [(getD_idx (hm a b)).2, beq_iff_eq]
    exact le_andAll (h.lt _ (getD_mem hb)) fun x hx => ((hu a b x).mp hx).2.2
  · unfold mle mjoin at *
    rw [(getD_idx (hm a b)).2]
    rw [beq_iff_eq] at *
    exact andAll_le ((hu a b _).mpr ⟨getD_mem hc, h1, h2⟩)
theorem mLat {ms : List Nat} (h : Masks ms) (hl : ms.length ≤ 12) : Lat ms.length (mle ms) (mjoin ms) (mmeet ms) := ⟨h.ne, hl, mOrd h, mJoin h, mMeet h⟩
theorem atI_nts {ms : List Nat} {a : Nat} (h : a < ms.length) : atI (nts ms) (a : Int) = some ((ms.getD a 0 : Nat) : Int) := by
  rw [atI_nat (by rw [nts_len]; exact h)]
  simp [nts, List.getD_eq_getElem?_getD, List.getElem?_eq_getElem h]
theorem under_eq {ms : List Nat} {a b : Nat} (ha : a < ms.length) (hb : b < ms.length) : m__law_under (nts ms) (a : Int) (b : Int) = some (mle ms a b) := by
  unfold m__law_under
  rw [atI_nts ha, atI_nts hb]
  simp only [Option.bind_eq_bind, bs, bitAnd_nat]
  unfold mle
  congr 1
  cases e : (ms.getD a 0 &&& ms.getD b 0 == ms.getD a 0) with
  | true => rw [beq_iff_eq] at e; rw [e]; simp
  | false => rw [beq_eq_false_iff_ne] at e ⊢; omega
end My

namespace My
open PySem L2 Sim PyProof.Rows
theorem forS_flat {α β γ : Type} {body : β → List γ → Option (List γ)} {a : α → β} {f : α → List γ} {B : Nat} : ∀ {xs : List α} {s : List γ}, (∀ x ∈ xs, ∀ s, s.length + (f x).length ≤ B → body (a x) s = some (s ++ f x)) → s.length + (xs.flatMap f).length ≤ B →
    forS body (xs.map a) s = some (s ++ xs.flatMap f)
  | [], s, _, _ => by simp [forS]
  | x :: xs, s, h, hB => by
    show (body (a x) s >>= forS body (xs.map a)) = _
    rw [List.flatMap_cons, List.length_append] at hB
    rw [h x (List.mem_cons_self ..) s (by omega)]
    show forS body (xs.map a) (s ++ f x) = _
    rw [forS_flat (fun y hy => h y (List.mem_cons_of_mem _ hy)) (by rw [List.length_append]; omega), List.flatMap_cons, List.append_assoc]
theorem flat_len {α γ : Type} {f : α → List γ} {k : Nat} : ∀ {xs : List α}, (∀ x ∈ xs, (f x).length ≤ k) → (xs.flatMap f).length ≤ xs.length * k
  | [], _ => by simp
  | x :: xs, h => by
    rw [List.flatMap_cons, List.length_append, List.length_cons, Nat.succ_mul]
    have := flat_len (fun y hy => h y (List.mem_cons_of_mem _ hy))
    have := h x (List.mem_cons_self ..)
    omega
theorem andT {b : Option Bool} : andO (some true) b = b := rfl
theorem idx_nts {ms : List Nat} (nd : ms.Nodup) {a : Nat} (ha : a < ms.length) : idxM (fun a b => a == b) (nts ms) ((ms.getD a 0 : Nat) : Int) = some (a : Int) := by
  unfold idxM
  have e : (nts ms).findIdx? (fun z => z == ((ms.getD a 0 : Nat) : Int)) = some a := by
    rw [List.findIdx?_eq_some_iff_getElem]
    refine ⟨by rw [nts_len]; exact ha, ?_, ?_⟩
    · simp [nts, List.getD_eq_getElem?_getD, List.getElem?_eq_getElem ha]
    · intro k hk
      have hk' : k < ms.length := by omega
      have : ms.getD k 0 ≠ ms.getD a 0 := fun z => by have := getD_inj nd hk' ha z; omega
      simp only [nts, List.getElem_map]
      rw [List.getD_eq_getElem?_getD, List.getElem?_eq_getElem hk', List.getD_eq_getElem?_getD, List.getElem?_eq_getElem ha] at this
      rw [List.getD_eq_getElem?_getD, List.getElem?_eq_getElem ha]
      simp only [Option.getD_some] at this ⊢
      simp; omega
  rw [e]; rfl
theorem minL_some : ∀ {xs : List Int}, xs ≠ [] → ∃ m, minL xs = some m
  | [], h => absurd rfl h
  | [x], _ => ⟨x, rfl⟩
  | x :: y :: ys, _ => by
    obtain ⟨k, hk⟩ := minL_some (xs := y :: ys) (by simp)
    unfold minL
    rw [hk]
    exact ⟨_, rfl⟩
theorem minL_of {xs : List Int} {m : Int} (hm : m ∈ xs) (h : ∀ y ∈ xs, m ≤ y) : minL xs = some m := by
  obtain ⟨k, hk⟩ := minL_some (List.ne_nil_of_mem hm)
  obtain ⟨h1, h2⟩ := minL_ok hk
  have := h2 m hm
  have := h k h1
  rw [hk]; congr 1; omega
end My

namespace My
open PySem L2 Sim PyProof.Rows
/-! ### all related pairs -/
def relp (ms : List Nat) : List (Int × Int) := (List.range ms.length).flatMap fun a => (List.range ms.length).flatMap fun b => if (!(a == b) && mle ms a b) = true then [((a : Int), (b : Int))] else []
theorem relp_mem {ms : List Nat} {p : Int × Int} : p ∈ relp ms ↔ ∃ a b, a < ms.length ∧ b < ms.length ∧ (!(a == b) && mle ms a b) = true ∧ p = ((a : Int), (b : Int)) := by
  unfold relp
  rw [List.mem_flatMap]
  constructor
  · rintro ⟨a, ha, h⟩
    obtain ⟨b, hb, h⟩ := List.mem_flatMap.mp h
    split at h
    · rename_i hc
      exact ⟨a, b, List.mem_range.mp ha, List.mem_range.mp hb, hc, List.mem_singleton.mp h⟩
    · cases h
  · rintro ⟨a, b, ha, hb, hc, rfl⟩
    refine ⟨a, List.mem_range.mpr ha, List.mem_flatMap.mpr ⟨b, List.mem_range.mpr hb, ?_⟩⟩
    rw [if_pos hc]
    exact List.mem_singleton.mpr rfl
theorem relp_len (ms : List Nat) : (relp ms).length ≤ ms.length * ms.length := by
  have := flat_len (f := fun a => (List.range ms.length).flatMap fun b => if (!(a == b) && mle ms a b) = true then [((a : Int), (b : Int))] else []) (k := ms.length) (xs := List.range ms.length) (fun a _ => by
    have := flat_len (f := fun b => if (!(a == b) && mle ms a b) = true then [((a : Int), (b : Int))] else []) (k := 1) (xs := List.range ms.length) (fun x _ => by split <;> simp)
    simpa using this)
  rw [List.length_range] at this
  exact this
theorem pairs_eq {ms : List Nat} (hl : ms.length ≤ 12) : m__law_pairs (nts ms) = some (relp ms) := by
  unfold m__law_pairs
  simp only [Option.bind_eq_bind, bs, nts_len]
  rw [rngM0 (by omega)]
  simp only [bs]
  have h2 : ms.length * ms.length ≤ 144 := Nat.mul_le_mul hl hl
  have h3 := relp_len ms
  have := forS_flat (body := m__law_pairs_b1 (nts ms)) (a := fun i : Nat => (i : Int)) (f := fun a => (List.range ms.length).flatMap fun b => if (!(a == b) && mle ms a b) = true then [((a : Int), (b : Int))] else []) (B := 144) (xs := List.range ms.length) (s := []) (by
    intro a ha s hs
    have ha := List.mem_range.mp ha
    unfold m__law_pairs_b1
    simp only [Option.bind_eq_bind, bs, nts_len]
    rw [rngM0 (by omega)]
    simp only [bs]
    have := forS_flat (body := m__law_pairs_b2 (a : Int) (nts ms)) (a := fun i : Nat => (i : Int)) (f := fun b => if (!(a == b) && mle ms a b) = true then [((a : Int), (b : Int))] else []) (B := 144) (xs := List.range ms.length) (s := s) (by
      intro b hb s hs
      have hb := List.mem_range.mp hb
      unfold m__law_pairs_b2
      rw [under_eq ha hb]
      have e0 : ((a : Int) == (b : Int)) = (a == b) := by
        cases e : (a == b) with
        | true => rw [beq_iff_eq] at e; rw [e]; simp
        | false => rw [beq_eq_false_iff_ne] at e ⊢; omega
      rw [e0]
      have e1 : andO (some (!(a == b))) (some (mle ms a b)) = some (!(a == b) && mle ms a b) := by cases (a == b) <;> rfl
      rw [e1]
      simp only [Option.bind_eq_bind, bs]
      cases e : (!(a == b) && mle ms a b) with
      | true =>
        simp only [cond_true, bs]
        unfold appM
        rw [sz_t (by omega)]
        simp
      | false => simp) hs
    show ((forS (m__law_pairs_b2 (a : Int) (nts ms)) (List.map (fun i : Nat => (i : Int)) (List.range ms.length)) s).bind some) = _
    rw [this]
    rfl) (by simp only [List.length_nil, Nat.zero_add]; exact Nat.le_trans h3 h2)
  show ((forS (m__law_pairs_b1 (nts ms)) (List.map (fun i : Nat => (i : Int)) (List.range ms.length)) []).bind some) = _
  rw [this]
  rfl
theorem relp_gens {ms : List Nat} (h : Masks ms) : Gens ms.length (mle ms) (relp ms) where
  rg p hp := by obtain ⟨a, b, ha, hb, _, e⟩ := relp_mem.mp hp; exact ⟨a, b, ha, hb, e⟩
  sd a b ha hb hp := by
    obtain ⟨c, d, _, _, hc, e⟩ := relp_mem.mp hp
    rw [Prod.mk.injEq] at e
    have h1 : a = c := by omega
    have h2 : b = d := by omega
    subst h1 h2
    simp only [Bool.and_eq_true] at hc
    exact hc.2
  gn S rf tr st a b ha hb hle := by
    by_cases e : a = b
    · subst e; exact rf a ha
    · exact st a b ha hb (relp_mem.mpr ⟨a, b, ha, hb, by simp [e, hle], rfl⟩)
end My

namespace My
open PySem L2 Sim PyProof.Rows
theorem require_eq {n : Nat} {le : Nat → Nat → Bool} {j m : Nat → Nat → Nat} {o : m_Order} (h : IsOrd n le j m o) {a b : Nat} (ha : a < n) (hb : b < n) : m_Order__require o (a : Int) (b : Int) = some () := by
  unfold m_Order__require
  simp only [Option.bind_eq_bind, Option.bind_some]
  rw [forS_un]
  · rfl
  · intro x hx
    unfold m_Order__require_b1
    rw [h.members, tab_len]
    have : (decide (x < 0) || decide ((n : Int) ≤ x)) = false := by
      rcases List.mem_cons.mp hx with rfl | hx
      · simp; omega
      · rcases List.mem_cons.mp hx with rfl | hx
        · simp; omega
        · cases hx
    rw [this]; rfl
theorem below_eq {n : Nat} {le : Nat → Nat → Bool} {j m : Nat → Nat → Nat} {o : m_Order} (h : IsOrd n le j m o) {a b : Nat} (ha : a < n) (hb : b < n) : m_Order_below o (a : Int) (b : Int) = some (le a b) := by
  unfold m_Order_below
  rw [require_eq h ha hb, h.above]
  have h1 := atI2 (R := le) ha hb
  rw [h1]
  rfl
end My

namespace My
open PySem L2 Sim PyProof.Rows
/-! ### heights -/
structure IsH (n : Nat) (le : Nat → Nat → Bool) (h : Nat → Nat) : Prop where
  up : ∀ a b, a < n → b < n → slt le a b = true → h a + 1 ≤ h b
  at_ : ∀ b, b < n → h b = 0 ∨ ∃ a, a < n ∧ slt le a b = true ∧ h b = h a + 1
  lt : ∀ b, b < n → h b < n
def rk (n : Nat) (le : Nat → Nat → Bool) (b : Nat) : Nat := ((List.range n).filter fun a => slt le a b).length
/-! ### relaxing along steps -/
def updN (f : Nat → Nat) (b v : Nat) : Nat → Nat := fun i => if i = b then v else f i
theorem Relax.step {n : Nat} {le : Nat → Nat → Bool} {h s0 : Nat → Nat} (H : IsH n le h) {done : Nat → Nat → Prop} {f : Nat → Nat} {a b v : Nat} (ha : a < n) (hb : b < n) (hs : slt le a b = true) (h1 : ∀ i, i < n → s0 i ≤ f i ∧ f i ≤ h i) (h2 : ∀ a b, b < n → done a b → s0 a + 1 ≤ f b)
    (hv : v = max (f b) (f a + 1)) : Relax n h s0 (fun x y => done x y ∨ (x = a ∧ y = b)) (tab n fun i => ((updN f b v i : Nat) : Int)) := by
  have hup := H.up a b ha hb hs
  have ha' := h1 a ha
  have hb' := h1 b hb
  refine ⟨updN f b v, rfl, fun i hi => ?_, fun x y hy hd => ?_⟩
  · unfold updN
    split
    · rename_i e; subst e; omega
    · exact h1 i hi
  · unfold updN
    rcases hd with hd | ⟨rfl, rfl⟩
    · have := h2 x y hy hd
      split
      · rename_i e; subst e; omega
      · exact this
    · rw [if_pos rfl]; omega
theorem Rnd.fin {n : Nat} {le : Nat → Nat → Bool} {h : Nat → Nat} (H : IsH n le h) {s : List Int} (R : Rnd n h n s) : s = tab n fun i => (h i : Int) := by
  obtain ⟨f, e, _, h2⟩ := R
  rw [e]
  exact tab_congr fun i hi => by rw [h2 i hi (Nat.le_of_lt (H.lt i hi))]
end My

namespace My
open PySem L2 Sim PyProof.Rows
/-! ### the law's own heights -/
def sub2 (x y : Nat) : Bool := (x &&& y) == x
end My

namespace My
open PySem L2 Sim PyProof.Rows
/-! ### what an order answers -/
section
variable {n : Nat} {le : Nat → Nat → Bool} {j m : Nat → Nat → Nat} {o : m_Order}
/-- the least, the greatest: folded -/
def fold0 (f : Nat → Nat → Nat) : Nat → Nat
  | 0 => 0
  | i + 1 => f (fold0 f i) i
theorem fold0_lub {f : Nat → Nat → Nat} (L : Lub n le f) (O : Ord n le) (h0 : 1 ≤ n) : ∀ i, i ≤ n → fold0 f i < n ∧ ∀ a, a < i → le a (fold0 f i) = true
  | 0, _ => ⟨by show 0 < n; omega, fun a ha => by omega⟩
  | i + 1, hi => by
    obtain ⟨h1, h2⟩ := fold0_lub L O h0 i (by omega)
    have h3 : f (fold0 f i) i < n := L.lt _ _ h1 (by omega)
    refine ⟨h3, fun a ha => ?_⟩
    show le a (f (fold0 f i) i) = true
    by_cases e : a = i
    · subst e; exact L.r _ _ h1 (by omega)
    · exact O.tr _ _ _ (by omega) h1 h3 (h2 a (by omega)) (L.l _ _ h1 (by omega))
theorem least_eq (h : IsOrd n le j m o) (L : Lat n le j m) : ∃ z : Nat, m_Order_least o = some (z : Int) ∧ z < n ∧ ∀ a, a < n → le z a = true := by
  obtain ⟨h1, h2⟩ := fold0_lub L.m L.o.op L.lo n (Nat.le_refl n)
  refine ⟨fold0 m n, ?_, h1, h2⟩
  unfold m_Order_least
  simp only [Option.bind_eq_bind, bs]
  rw [h.members]
  have := forS_tab (body := m_Order_least_b1 o) (a := fun i => (i : Int)) (S := fun i => ((fold0 m i : Nat) : Int)) (n := n) (fun i hi => by
    unfold m_Order_least_b1
    rw [h.meets]
    have h1 := atI2 (R := fun a b => some ((m a b : Nat) : Int)) (fold0_lub L.m L.o.op L.lo i (by omega)).1 hi
    rw [h1]
    rfl)
  show ((forS (m_Order_least_b1 o) (tab n fun i => (i : Int)) (((fold0 m 0 : Nat)) : Int)).bind some) = _
  rw [this]
  rfl
end
end My

namespace My
open PySem L2 Sim PyProof.Rows
/-! ### small laws for what the laws compute themselves -/
theorem appM_ok1 {α : Type} {xs : List α} {x : α} (h : xs.length < 100000) : appM xs x = some (xs ++ [x]) := by unfold appM; rw [sz_t h]; rfl
theorem bot_uniq {n : Nat} {le : Nat → Nat → Bool} (O : Ord n le) {z y : Nat} (hz : z < n) (hz' : ∀ a, a < n → le z a = true) (hy : y < n) (hy' : ∀ a, a < n → le y a = true) : z = y := O.an _ _ hz hy (hz' _ hy) (hy' _ hz)
/-! ### the law's own join, meet -/
section
variable {ms : List Nat}
theorem min_of (h : Masks ms) (hl : ms.length ≤ 12) : ∃ z, z < ms.length ∧ (∀ a, a < ms.length → mle ms z a = true) ∧ (minL (nts ms) >>= fun t => idxM (fun a b => a == b) (nts ms) t) = some (z : Int) := by
  have L := mLat h hl
  obtain ⟨h1, h2⟩ := fold0_lub L.m L.o.op L.lo ms.length (Nat.le_refl _)
  refine ⟨fold0 (mmeet ms) ms.length, h1, h2, ?_⟩
  have : minL (nts ms) = some ((ms.getD (fold0 (mmeet ms) ms.length) 0 : Nat) : Int) := by
    refine minL_of (mem_nts.mpr (getD_mem h1)) fun y hy => ?_
    unfold nts at hy
    obtain ⟨k, hk, rfl⟩ := List.mem_map.mp hy
    obtain ⟨g1, g2⟩ := getD_idx hk
    have := h2 _ g1
    unfold mle at this
    rw [beq_iff_eq, g2] at this
    have h3 := Nat.and_le_right (n := ms.getD (fold0 (mmeet ms) ms.length) 0) (m := k)
    rw [this] at h3
    omega
  rw [this]
  exact idx_nts h.nd h1
end
end My

namespace My
open PySem L2 Sim PyProof.Rows
theorem appW {α : Type} {xs : List α} {x : α} (h : xs.length < 100000) : appM xs x = some (xs ++ [x]) := by unfold appM; rw [sz_t h]; rfl
theorem catW {α : Type} {xs ys : List α} (h : xs.length + ys.length < 100000) : catM xs ys = some (xs ++ ys) := by unfold catM; rw [decide_eq_true h]; rfl
theorem andFW {b : Option Bool} : andO (some false) b = some false := rfl
/-- a loop that leaves with false at the first item that is not P -/
theorem forL_ff {α ρ : Type} {body : α → Unit → Option (Stp Unit ρ)} {P : α → Bool} {r : ρ} : ∀ {xs : List α}, (∀ x ∈ xs, body x () = some (bif P x then .nx () else .rt r)) → forL body xs () = some (bif xs.all P then .inl () else .inr r)
  | [], _ => rfl
  | x :: xs, h => by
    show (body x () >>= stpK (forL body xs)) = _
    rw [h x (List.mem_cons_self ..), List.all_cons]
    cases P x with
    | true => exact forL_ff (xs := xs) fun y hy => h y (List.mem_cons_of_mem _ hy)
    | false => rfl
/-! ### records of rows -/
section
variable {n l : Nat}
theorem nat_rgW {d : List (Str × Int)} (t : Tb n l d) {q : Str × Int} (hq : q ∈ d) : q.2.toNat < n ∧ q.2 = (q.2.toNat : Int) := by
  obtain ⟨a, ha, e⟩ := t.rg q hq
  rw [e]
  exact ⟨by simpa using ha, by simp⟩
theorem rec_eqW {asks : List (Str × Int)} (t : Tb n l asks) (hl : l < 1000) (nm : Str) (r : Int) : m_Record___init__ nm asks r = some ⟨nm, asks, r⟩ := by
  have hln := t.ln
  unfold m_Record___init__
  simp only [Option.bind_eq_bind, bs]
  have loop : ∀ (xs : List (Str × Int)) (s : List Str), (s ++ xs.map (·.1)).Nodup → s.length + xs.length < 1000 → ∃ s', forS m_Record___init___b1 xs s = some s' := by
    intro xs
    induction xs with
    | nil => intro s _ _; exact ⟨s, rfl⟩
    | cons q xs ih =>
      intro s nd hs
      rw [List.length_cons] at hs
      show ∃ s', (m_Record___init___b1 q s >>= forS m_Record___init___b1 xs) = some s'
      unfold m_Record___init___b1
      have hq : q.1 ∉ s := fun hm => by
        rw [List.nodup_append] at nd
        exact nd.2.2 q.1 hm q.1 (by simp) rfl
      rw [any_mem, decide_eq_false hq]
      simp only [Option.bind_eq_bind, bs, cfa]
      rw [appW (by omega)]
      simp only [bs]
      exact ih (s ++ [q.1]) (by rw [List.append_assoc]; exact nd) (by rw [List.length_append, List.length_singleton]; omega)
  obtain ⟨s', e⟩ := loop asks [] t.nd (by show 0 + asks.length < 1000; omega)
  rw [e]
  simp only [bs]
  rw [mapS_map (xs := asks) (g := fun x => x) (by omega) (fun _ _ => rfl)]
  simp only [bs, List.map_id']
theorem answerW (r : m_Record) (k : Str) : m_Record_answer r k = some (lookM r.asks k) := by
  unfold m_Record_answer
  simp only [Option.bind_eq_bind, bs]
  have := forL_find (body := m_Record_answer_b1 k) (a := fun q : Str × Int => q) (p := fun q => decide (q.1 = k)) (g := fun q => some q.2) (xs := r.asks) (fun q _ => by
    unfold m_Record_answer_b1
    simp only [Option.bind_eq_bind, bs]
    cases decide (q.1 = k) <;> rfl)
  rw [List.map_id'] at this
  rw [this]
  unfold lookM
  cases r.asks.find? fun q => decide (q.1 = k) <;> rfl
/-! ### the common beginning -/
def pre {α : Type} [DecidableEq α] : List α → List α → Nat
  | x :: xs, y :: ys => if x = y then pre xs ys + 1 else 0
  | _, _ => 0
theorem pre_cons {α : Type} [DecidableEq α] {x y : α} {xs ys : List α} : pre (x :: xs) (y :: ys) = if x = y then pre xs ys + 1 else 0 := rfl
theorem pre_le {α : Type} [DecidableEq α] : ∀ xs ys : List α, pre xs ys ≤ xs.length ∧ pre xs ys ≤ ys.length
  | [], [] => ⟨Nat.le_refl _, Nat.le_refl _⟩
  | [], _ :: _ => ⟨Nat.le_refl _, Nat.zero_le _⟩
  | _ :: _, [] => ⟨Nat.zero_le _, Nat.le_refl _⟩
  | x :: xs, y :: ys => by
    have := pre_le xs ys
    rw [pre_cons, List.length_cons, List.length_cons]
    by_cases e : x = y
    · rw [if_pos e]; omega
    · rw [if_neg e]; omega
/-- an item lies before the parting just where the items are equal -/
theorem pre_at {α : Type} [DecidableEq α] : ∀ {xs ys : List α} {k : Nat} (hx : k < xs.length) (hy : k < ys.length), k ≤ pre xs ys → (xs[k] = ys[k] ↔ k < pre xs ys)
  | x :: xs, y :: ys, 0, _, _, _ => by
    rw [pre_cons]
    show x = y ↔ _
    by_cases e : x = y
    · rw [if_pos e]; exact ⟨fun _ => by omega, fun _ => e⟩
    · rw [if_neg e]; exact ⟨fun z => absurd z e, fun z => by omega⟩
  | x :: xs, y :: ys, k + 1, hx, hy, hk => by
    rw [pre_cons] at hk ⊢
    rw [List.length_cons] at hx hy
    by_cases e : x = y
    · rw [if_pos e] at hk ⊢
      have := pre_at (xs := xs) (ys := ys) (k := k) (by omega) (by omega) (by omega)
      show xs[k] = ys[k] ↔ _
      rw [this]; omega
    · rw [if_neg e] at hk; omega
theorem same_loop : ∀ (xs ys : List (Str × Int)) (c : Int), ∃ z : Sum Int Int, forL m_same_start_b1 (List.zip xs ys) c = some z ∧ Sum.elim (fun s => s) (fun r => r) z = c + (pre xs ys : Int)
  | [], ys, c => ⟨.inl c, by rw [List.zip_nil_left]; rfl, by show c = c + ((0 : Nat) : Int); omega⟩
  | x :: xs, [], c => ⟨.inl c, by rw [List.zip_nil_right]; rfl, by show c = c + ((0 : Nat) : Int); omega⟩
  | x :: xs, y :: ys, c => by
    rw [List.zip_cons_cons]
    show ∃ z, (m_same_start_b1 (x, y) c >>= stpK (forL m_same_start_b1 (List.zip xs ys))) = some z ∧ _
    unfold m_same_start_b1
    simp only [Option.bind_eq_bind, bs]
    rw [pre_cons]
    by_cases e : x = y
    · rw [decide_eq_true e, if_pos e]
      obtain ⟨z, e1, e2⟩ := same_loop xs ys (c + 1)
      refine ⟨z, ?_, by rw [e2]; omega⟩
      exact e1
    · rw [decide_eq_false e, if_neg e]
      exact ⟨.inr c, rfl, by show c = c + ((0 : Nat) : Int); omega⟩
theorem same_eq (a b : m_Record) : m_same_start a b = some ((pre a.asks b.asks : Nat) : Int) := by
  unfold m_same_start
  simp only [Option.bind_eq_bind, bs]
  obtain ⟨z, e1, e2⟩ := same_loop a.asks b.asks 0
  rw [e1]
  simp only [bs]
  cases z with
  | inl s =>
    have : s = 0 + (pre a.asks b.asks : Int) := e2
    rw [this, Int.zero_add]; rfl
  | inr s =>
    have : s = 0 + (pre a.asks b.asks : Int) := e2
    rw [this, Int.zero_add]; rfl
/-- do they go on with different names, or only one of them -/
def shp (a b : List (Str × Int)) : Bool :=
  if h : pre a b < a.length ∧ pre a b < b.length then !decide ((a[pre a b]'h.1).1 = (b[pre a b]'h.2).1) else !decide (a.length = b.length)
theorem beqN (a b : Nat) : ((a : Int) == (b : Int)) = decide (a = b) := by
  by_cases e : a = b
  · rw [e, decide_eq_true rfl]; simp
  · rw [decide_eq_false e]; simp; omega
theorem shape_eq (a b : m_Record) : m_shape_clash a b = some (shp a.asks b.asks) := by
  unfold m_shape_clash
  rw [same_eq]
  simp only [Option.bind_eq_bind, bs, beqN]
  have hl := pre_le a.asks b.asks
  unfold shp
  by_cases h : pre a.asks b.asks < a.asks.length ∧ pre a.asks b.asks < b.asks.length
  · rw [dif_pos h, decide_eq_false (by omega), decide_eq_false (by omega)]
    simp only [Bool.or_self, cfa]
    rw [atI_nat h.1, atI_nat h.2]
    rfl
  · rw [dif_neg h]
    have : (decide (pre a.asks b.asks = a.asks.length) || decide (pre a.asks b.asks = b.asks.length)) = true := by
      by_cases h1 : pre a.asks b.asks = a.asks.length
      · rw [decide_eq_true h1]; rfl
      · rw [decide_eq_false h1, decide_eq_true (show pre a.asks b.asks = b.asks.length by omega)]; rfl
    rw [this]
    rfl
/-! ### falling -/
variable {le : Nat → Nat → Bool} {j m : Nat → Nat → Nat} {o : m_Order}
def fal (le : Nat → Nat → Bool) (a : List (Str × Int)) (ra : Nat) (b : List (Str × Int)) (rb : Nat) : Bool :=
  (a.all fun q => match lookM b q.1 with | some v => le q.2.toNat v.toNat | none => true) && !(le ra rb)
theorem falls_eq {a b : m_Record} {l2 ra rb : Nat} (h : IsOrd n le j m o) (ta : Tb n l a.asks) (tb : Tb n l2 b.asks) (ha : a.result = (ra : Int)) (hb : b.result = (rb : Int)) (hra : ra < n) (hrb : rb < n) : m_falls a b o = some (fal le a.asks ra b.asks rb) := by
  unfold m_falls
  simp only [Option.bind_eq_bind, bs]
  rw [forL_ff (P := fun q => match lookM b.asks q.1 with | some v => le q.2.toNat v.toNat | none => true) (r := false)]
  · simp only [bs]
    unfold fal
    cases (a.asks.all fun q => match lookM b.asks q.1 with | some v => le q.2.toNat v.toNat | none => true) with
    | true =>
      simp only [ctr, sel]
      rw [ha, hb, below_eq h hra hrb]
      rfl
    | false => rfl
  · intro q hq
    unfold m_falls_b1
    rw [answerW]
    simp only [Option.bind_eq_bind, bs]
    cases e : lookM b.asks q.1 with
    | none => rfl
    | some v =>
      obtain ⟨c, hc, ec⟩ := tb.rg _ (look_mem e)
      replace ec : v = (c : Int) := ec
      obtain ⟨h3, h4⟩ := nat_rgW ta hq
      subst ec
      have : m_Order_below o q.2 (c : Int) = some (le q.2.toNat c) := by
        rw [h4]
        exact below_eq h h3 hc
      simp only [Option.isSome_some, andT, bs, this, Int.toNat_natCast]
      cases le q.2.toNat c <;> rfl
theorem lfalls_eq {ms : List Nat} {a b : List (Str × Int)} {l2 ra rb : Nat} (ta : Tb ms.length l a) (tb : Tb ms.length l2 b) (hra : ra < ms.length) (hrb : rb < ms.length) : m__law_falls (nts ms) (a, (ra : Int)) (b, (rb : Int)) = some (fal (mle ms) a ra b rb) := by
  unfold m__law_falls
  simp only [Option.bind_eq_bind, bs]
  rw [forL_ff (P := fun q => match lookM b q.1 with | some v => mle ms q.2.toNat v.toNat | none => true) (r := false)]
  · simp only [bs]
    unfold fal
    cases (a.all fun q => match lookM b q.1 with | some v => mle ms q.2.toNat v.toNat | none => true) with
    | true =>
      simp only [ctr, sel]
      rw [under_eq hra hrb]
      rfl
    | false => rfl
  · intro q hq
    unfold m__law_falls_b1
    simp only [Option.bind_eq_bind, bs]
    obtain ⟨h3, h4⟩ := nat_rgW ta hq
    rw [forL_ff (P := fun x : Str × Int => !decide (q.1 = x.1) || mle ms q.2.toNat x.2.toNat) (r := false)]
    · simp only [bs]
      have e : (b.all fun x : Str × Int => !decide (q.1 = x.1) || mle ms q.2.toNat x.2.toNat) = (match lookM b q.1 with | some v => mle ms q.2.toNat v.toNat | none => true) := by
        cases e : lookM b q.1 with
        | none =>
          show _ = true
          rw [List.all_eq_true]
          intro x hx
          have hne : ¬ q.1 = x.1 := fun z => by
            have := look_nd tb.nd (k := x.1) (x := x.2) hx
            rw [← z, e] at this
            cases this
          rw [decide_eq_false hne]; rfl
        | some v =>
          show _ = mle ms q.2.toNat v.toNat
          cases e2 : mle ms q.2.toNat v.toNat with
          | true =>
            rw [List.all_eq_true]
            intro x hx
            by_cases hq' : q.1 = x.1
            · have := look_nd tb.nd (k := x.1) (x := x.2) hx
              rw [← hq', e] at this
              cases this
              rw [e2]; simp
            · rw [decide_eq_false hq']; rfl
          | false =>
            rw [List.all_eq_false]
            refine ⟨(q.1, v), look_mem e, ?_⟩
            simp [e2]
      rw [e]
      cases (match lookM b q.1 with | some v => mle ms q.2.toNat v.toNat | none => true) <;> rfl
    · intro x hx
      unfold m__law_falls_b2
      obtain ⟨h5, h6⟩ := nat_rgW tb hx
      by_cases hq' : q.1 = x.1
      · have : m__law_under (nts ms) q.2 x.2 = some (mle ms q.2.toNat x.2.toNat) := by
          rw [h4, h6]
          simp only [Int.toNat_natCast]
          exact under_eq h3 h5
        rw [decide_eq_true hq', this]
        simp only [Option.bind_eq_bind, bs, andT]
        cases mle ms q.2.toNat x.2.toNat <;> rfl
      · rw [decide_eq_false hq']
        rfl
end
/-! ### rows drawn -/
theorem Row.add {n a : Nat} {ns : List Str} {d : List (Str × Int)} {k : Str} (h : Row n ns d) (hk : k ∈ ns) (hn : k ∉ d.map (·.1)) (ha : a < n) : Row n ns (d ++ [(k, (a : Int))]) :=
  Row.mk' (by
    rw [List.map_append, List.nodup_append]
    exact ⟨h.t.nd, by simp, fun x hx y hy => by
      have : y = k := by simpa using hy
      rw [this]
      exact fun e => hn (e ▸ hx)⟩) (fun q hq => by
    rcases List.mem_append.mp hq with hq | hq
    · exact h.t.rg q hq
    · rw [List.mem_singleton.mp hq]; exact ⟨a, ha, rfl⟩) fun q hq => by
    rcases List.mem_append.mp hq with hq | hq
    · exact h.k q hq
    · rw [List.mem_singleton.mp hq]; exact hk
theorem row_eq {n : Nat} {ns : List Str} {st : List (Str × Int)} (pot : List Int) (hn : 0 < n) (hs : ns.length ≤ 100) (nd : ns.Nodup) (h : Row n ns st) : ∃ d pot', m__law_row pot ns (n : Int) st = some (d, pot') ∧ Row n ns d := by
  have hl := h.t.ln
  unfold m__law_row
  simp only [Option.bind_eq_bind, bs]
  rw [mapS_map (xs := st) (g := fun x => x.1) (by omega) (fun _ _ => rfl)]
  simp only [bs]
  have e0 := lcS_map (xs := ns) (a := fun x : Str => x) (p' := fun x => some (!((st.map (·.1)).any fun z => z == x))) (f := fun x => some x) (p := fun x => !decide (x ∈ st.map (·.1))) (g := fun x => x) (by omega) (fun x _ => by rw [any_mem]) (fun _ _ => rfl)
  rw [List.map_id', List.map_id'] at e0
  have e0 : lcS (fun x => some (!((st.map (·.1)).any fun z => z == x))) (fun x => some x) ns = some (ns.filter fun x => !decide (x ∈ st.map (·.1))) := e0
  rw [e0]
  simp only [bs]
  generalize hr : (ns.filter fun x => !decide (x ∈ st.map (·.1))) = rest
  have r1 : rest.Nodup := by rw [← hr]; exact nd.filter _
  have r2 : ∀ x ∈ rest, x ∈ ns ∧ x ∉ st.map (·.1) := fun x hx => by
    rw [← hr] at hx
    obtain ⟨h1, h2⟩ := List.mem_filter.mp hx
    exact ⟨h1, by simpa using h2⟩
  have r3 : rest.length ≤ 100 := by
    have := List.length_filter_le (fun x => !decide (x ∈ st.map (·.1))) ns
    rw [hr] at this
    omega
  obtain ⟨c, p1, e, hc⟩ := draw_eq pot (n := 1 + rest.length) (by omega)
  have e : m__law_draw pot (1 + (rest.length : Int)) = some ((c : Int), p1) := by
    rw [← e]
    congr 1
  rw [e]
  simp only [bs]
  rw [rngM0 (by omega)]
  simp only [bs]
  obtain ⟨s, e, h1⟩ := forS_keep (body := m__law_row_b1 (n : Int)) (xs := tab c fun i => (i : Int)) (k := 0) (I := fun j s => Row n ns s.1 ∧ s.2.2.Nodup ∧ (∀ x ∈ s.2.2, x ∈ ns ∧ x ∉ s.1.map (·.1)) ∧ s.2.2.length + j = rest.length) (s := (st, (p1, rest))) ⟨h, r1, r2, rfl⟩ (fun x _ j s _ hj hs' => by
    rw [tab_len] at hj
    obtain ⟨as, p, rt⟩ := s
    obtain ⟨a1, a2, a3, a4⟩ := hs'
    replace a1 : Row n ns as := a1
    replace a2 : rt.Nodup := a2
    replace a3 : ∀ x ∈ rt, x ∈ ns ∧ x ∉ as.map (·.1) := a3
    replace a4 : rt.length + j = rest.length := a4
    have al := a1.t.ln
    unfold m__law_row_b1
    simp only [Option.bind_eq_bind, bs]
    obtain ⟨v, p2, e, hv⟩ := draw_eq p (n := rt.length) (by omega)
    rw [e]
    simp only [bs]
    rw [popAt_eq hv (by omega)]
    simp only [bs]
    obtain ⟨b, p3, e, hb⟩ := draw_eq p2 hn
    rw [e]
    simp only [bs]
    rw [appW (by omega)]
    obtain ⟨z1, z2⟩ := a3 _ (List.getElem_mem hv)
    have pm := perm_erase hv
    obtain ⟨y1, y2⟩ := List.nodup_cons.mp (pm.nodup_iff.mp a2)
    refine ⟨_, rfl, a1.add z1 z2 hb, y2, fun x hx => ?_, ?_⟩
    · obtain ⟨w1, w2⟩ := a3 x (pm.mem_iff.mpr (List.mem_cons_of_mem _ hx))
      refine ⟨w1, fun z => ?_⟩
      have z : x ∈ (as ++ [(rt[v], (b : Int))]).map (·.1) := z
      rw [List.map_append] at z
      rcases List.mem_append.mp z with z | z
      · exact w2 z
      · have : x = rt[v] := by simpa using z
        exact y1 (this ▸ hx)
    · show (rt.eraseIdx v).length + (j + 1) = rest.length
      rw [List.length_eraseIdx, if_pos hv]; omega)
  rw [e]
  simp only [bs]
  exact ⟨_, _, rfl, h1.1⟩
theorem cut_pre {α : Type} {xs : List α} {v : Nat} (h : v ≤ xs.length) : cutM xs none (some (v : Int)) = xs.take v := by
  unfold cutM
  have e1 := HT.sIx_nat xs.length xs.length v
  rw [e1, HT.sIx_none, Nat.min_eq_left h]
  rfl
theorem second_eq {n : Nat} {ns : List Str} {st : List (Str × Int)} (pot : List Int) (hn : 0 < n) (hs : ns.length ≤ 100) (nd : ns.Nodup) (h : Row n ns st) : ∃ d pot', m__law_second pot ns (n : Int) st = some (d, pot') ∧ Row n ns d := by
  have hl := h.t.ln
  unfold m__law_second
  simp only [Option.bind_eq_bind, bs]
  obtain ⟨v, p1, e, hv⟩ := draw_eq pot (n := st.length + 1) (by omega)
  have e : m__law_draw pot ((st.length : Int) + 1) = some ((v : Int), p1) := e
  rw [e]
  simp only [bs]
  rw [cut_pre (by omega)]
  obtain ⟨k, p2, e, hk⟩ := draw_lit p1 4 (by decide) (z := 4) rfl
  rw [e]
  simp only [bs]
  have h0 : Row n ns (st.take v) := h.sub (List.take_sublist ..)
  cases ((k : Int) == 0) with
  | true => simp only [ctr]; exact ⟨_, _, rfl, h0⟩
  | false =>
    simp only [cfa]
    have e1 : ∃ (p3 : List Int) (s2 : List (Str × Int)), (bif (((k : Int) == 2) && decide ((v : Int) < (st.length : Int))) then ((atI st (v : Int)).bind fun t => some t.1).bind fun x => (m__law_draw p2 (n : Int)).bind fun x2 => (catM (st.take v) [(x, x2.1)]).bind fun x3 => some (x2.2, x3) else some (p2, st.take v)) = some (p3, s2) ∧ Row n ns s2 := by
      cases hb : (((k : Int) == 2) && decide ((v : Int) < (st.length : Int))) with
      | false => exact ⟨_, _, rfl, h0⟩
      | true =>
        have hv' : v < st.length := by
          have := of_decide_eq_true (Bool.and_eq_true_iff.mp hb).2
          omega
        simp only [ctr]
        rw [atI_nat hv']
        simp only [bs]
        obtain ⟨a, p3, e, ha⟩ := draw_eq p2 hn
        rw [e]
        simp only [bs]
        rw [catW (by rw [List.length_singleton, List.length_take]; omega)]
        refine ⟨_, _, rfl, h0.add (h.k _ (List.getElem_mem hv')) (fun m => ?_) ha⟩
        have nd' := h.t.nd
        have e3 : st = st.take v ++ st[v] :: st.drop (v + 1) := by
          rw [← List.drop_eq_getElem_cons hv', List.take_append_drop]
        rw [e3, List.map_append, List.map_cons, List.nodup_append] at nd'
        exact nd'.2.2 _ m _ (List.mem_cons_self ..) rfl
    obtain ⟨p3, s2, e1, hs2⟩ := e1
    rw [e1]
    simp only [bs]
    have e2 : ∃ s3, (bif ((k : Int) == 3) then some ([] : List (Str × Int)) else some s2) = some s3 ∧ Row n ns s3 := by
      cases ((k : Int) == 3) with
      | true => exact ⟨_, rfl, Row.nil⟩
      | false => exact ⟨_, rfl, hs2⟩
    obtain ⟨s3, e2, hs3⟩ := e2
    rw [e2]
    simp only [bs]
    obtain ⟨d, p4, e, hd⟩ := row_eq p3 hn hs nd hs3
    rw [e]
    exact ⟨_, _, rfl, hd⟩
end My

namespace My
open PySem L2 Sim PyProof.Rows
theorem minC (a b : Nat) : (if (b : Int) < (a : Int) then (b : Int) else (a : Int)) = ((min a b : Nat) : Int) := by
  split <;> omega
theorem lsame (a b : List (Str × Int)) (ra rb : Int) : forS (m__law_shape_clash_b1 (a, ra) (b, rb)) (tab (min a.length b.length) fun i => (i : Int)) (0 : Int) = some ((pre a b : Nat) : Int) := by
  have hl := pre_le a b
  have := forS_tab (body := m__law_shape_clash_b1 (a, ra) (b, rb)) (a := fun i : Nat => (i : Int)) (n := min a.length b.length) (S := fun i => ((min i (pre a b) : Nat) : Int)) (fun i hi => by
    have h1 : i < a.length := by omega
    have h2 : i < b.length := by omega
    unfold m__law_shape_clash_b1
    simp only [Option.bind_eq_bind, bs, beqN]
    rw [atI_nat h1, atI_nat h2]
    simp only [bs]
    by_cases hp : i ≤ pre a b
    · rw [decide_eq_true (show min i (pre a b) = i by omega), andT]
      simp only [bs]
      have := pre_at h1 h2 hp
      by_cases hlt : i < pre a b
      · rw [decide_eq_true (this.mpr hlt)]
        simp only [ctr, bs]
        rw [show min (i + 1) (pre a b) = i + 1 by omega]; rfl
      · rw [decide_eq_false fun z => hlt (this.mp z)]
        simp only [cfa, bs]
        rw [show min (i + 1) (pre a b) = min i (pre a b) by omega]
    · rw [decide_eq_false (show ¬ min i (pre a b) = i by omega), andFW]
      simp only [bs, cfa]
      rw [show min (i + 1) (pre a b) = min i (pre a b) by omega])
  rw [show ((min 0 (pre a b) : Nat) : Int) = 0 by simp, show min (min a.length b.length) (pre a b) = pre a b by omega] at this
  exact this
theorem lshape_eq {a b : List (Str × Int)} {ra rb : Int} (h1 : a.length < 1000) (h2 : b.length < 1000) : m__law_shape_clash (a, ra) (b, rb) = some (shp a b) := by
  have hl := pre_le a b
  unfold m__law_shape_clash
  simp only [Option.bind_eq_bind, bs]
  rw [minC, rngM0 (by omega)]
  simp only [bs]
  rw [lsame]
  simp only [bs, beqN]
  unfold shp
  by_cases h : pre a b < a.length ∧ pre a b < b.length
  · rw [dif_pos h, decide_eq_false (show ¬ a.length = pre a b by omega), decide_eq_false (show ¬ b.length = pre a b by omega), decide_eq_true (show ((pre a b : Nat) : Int) < (a.length : Int) by omega), atI_nat h.1, atI_nat h.2]
    simp only [beq_self_eq_true, Bool.not_true, cfa, andT, bs]
  · rw [dif_neg h]
    by_cases he : a.length = b.length
    · have e1 : a.length = pre a b := by omega
      have e2 : b.length = pre a b := by omega
      rw [decide_eq_true e1, decide_eq_true e2, decide_eq_true he, decide_eq_false (show ¬ ((pre a b : Nat) : Int) < (a.length : Int) by omega)]
      simp only [beq_self_eq_true, Bool.not_true, cfa, andFW, bs]
    · rw [decide_eq_false he]
      have : (!(decide (a.length = pre a b) == decide (b.length = pre a b))) = true := by
        by_cases e1 : a.length = pre a b
        · rw [decide_eq_true e1, decide_eq_false (show ¬ b.length = pre a b by omega)]; rfl
        · rw [decide_eq_false e1, decide_eq_true (show b.length = pre a b by omega)]; rfl
      rw [this]
      rfl
def due (le : Nat → Nat → Bool) (a : List (Str × Int)) (ra : Nat) (b : List (Str × Int)) (rb : Nat) : Option Str :=
  bif shp a b then some ("shape" : Str) else bif (fal le a ra b rb || fal le b rb a ra) then some ("values" : Str) else none
theorem clash_eq {n l l2 : Nat} {le : Nat → Nat → Bool} {j m : Nat → Nat → Nat} {o : m_Order} {a b : m_Record} {ra rb : Nat} (h : IsOrd n le j m o) (ta : Tb n l a.asks) (tb : Tb n l2 b.asks) (ha : a.result = (ra : Int)) (hb : b.result = (rb : Int)) (hra : ra < n) (hrb : rb < n) :
    m_clash a b o = some (if a.name = b.name then due le a.asks ra b.asks rb else none) := by
  unfold m_clash
  simp only [Option.bind_eq_bind, bs]
  by_cases hn : a.name = b.name
  · rw [decide_eq_true hn, if_pos hn, shape_eq, falls_eq h ta tb ha hb hra hrb, falls_eq h tb ta hb ha hrb hra]
    simp only [bs, Bool.not_true, cfa]
    unfold due
    cases shp a.asks b.asks with
    | true => rfl
    | false =>
      simp only [cfa]
      cases fal le a.asks ra b.asks rb <;> cases fal le b.asks rb a.asks ra <;> rfl
  · rw [decide_eq_false hn, if_neg hn]
    rfl
/-! ### the two tables -/
theorem dictP_go : ∀ {s d : Dc}, ((d ++ s).map (·.1)).Nodup → List.foldl (fun d p => putM d p.1 p.2) d s = d ++ s
  | [], d, _ => (List.append_nil d).symm
  | q :: s, d, nd => by
    have hq : q.1 ∉ d.map (·.1) := by
      rw [List.map_append, List.nodup_append] at nd
      exact fun hm => nd.2.2 q.1 hm q.1 (List.mem_cons_self ..) rfl
    rw [List.foldl_cons, put_new hq, show d ++ [(q.1, q.2)] = d ++ [q] from rfl, dictP_go (by rw [List.append_assoc]; exact nd), List.append_assoc]
    rfl
theorem dictP_nd {s : Dc} (nd : (s.map (·.1)).Nodup) : dictP s = s := (dictP_go (d := []) nd).trans (List.nil_append _)
theorem look_in {d : Dc} {k : Str} (h : k ∈ d.map (·.1)) : ∃ v, lookM d k = some v := by
  have := look_is (d := d) (k := k)
  rw [decide_eq_true h] at this
  exact Option.isSome_iff_exists.mp this
theorem prog_loop {o : m_Order} {z : Int} (ez : m_Order_least o = some z) : ∀ (b h l : Dc), h.length + b.length < 10000 → l.length + b.length < 10000 → forS (m_parting_tables_b1 o) b (h, l) = some (ptS z b (h, l))
  | [], h, l, _, _ => rfl
  | q :: b, h, l, h1, h2 => by
    rw [List.length_cons] at h1 h2
    have e : m_parting_tables_b1 o q (h, l) = some (putM h q.1 q.2, if q.1 ∈ l.map (·.1) then l else l ++ [(q.1, z)]) := by
      unfold m_parting_tables_b1
      simp only [Option.bind_eq_bind, bs]
      rw [look_is, ez]
      by_cases hk : q.1 ∈ l.map (·.1)
      · rw [decide_eq_true hk, if_pos hk]
        simp only [Bool.not_true, cfa, bs]
        rw [putMM_ok (by omega)]
        rfl
      · rw [decide_eq_false hk, if_neg hk]
        simp only [Bool.not_false, ctr, bs]
        rw [putMM_ok (by omega), putMM_ok (by omega), put_new hk]
        rfl
    show (m_parting_tables_b1 o q (h, l) >>= forS (m_parting_tables_b1 o) b) = _
    rw [e]
    refine prog_loop ez b _ _ ?_ ?_
    · have : (putM h q.1 q.2).length ≤ h.length + 1 := by
        have := congrArg List.length (put_keys (d := h) (k := q.1) (x := q.2))
        rw [List.length_map] at this
        rw [this]
        split <;> simp
      omega
    · split
      · omega
      · rw [List.length_append, List.length_singleton]; omega
theorem law_loop {ms : List Nat} {z : Int} (em : (minL (nts ms) >>= fun t => idxM (fun a b => a == b) (nts ms) t) = some z) : ∀ (b h l : Dc), h.length + b.length < 10000 → l.length + b.length < 10000 → forS (m__law_parting_due_b1 (nts ms)) b (h, (l.map (·.1), l)) = some ((ptS z b (h, l)).1, ((ptS z b (h, l)).2.map (·.1), (ptS z b (h, l)).2))
  | [], h, l, _, _ => rfl
  | q :: b, h, l, h1, h2 => by
    rw [List.length_cons] at h1 h2
    have e : m__law_parting_due_b1 (nts ms) q (h, (l.map (·.1), l)) = some (putM h q.1 q.2, ((if q.1 ∈ l.map (·.1) then l else l ++ [(q.1, z)]).map (·.1), if q.1 ∈ l.map (·.1) then l else l ++ [(q.1, z)])) := by
      have em2 : ((minL (nts ms)).bind fun t => idxM (fun a b => a == b) (nts ms) t) = some z := em
      unfold m__law_parting_due_b1
      simp only [Option.bind_eq_bind, bs]
      rw [any_mem, em2]
      by_cases hk : q.1 ∈ l.map (·.1)
      · rw [decide_eq_true hk, if_pos hk]
        simp only [Bool.not_true, cfa, bs]
        rw [putMM_ok (by omega)]
        rfl
      · rw [decide_eq_false hk, if_neg hk]
        simp only [Bool.not_false, ctr, bs]
        rw [appM_ok1 (by rw [List.length_map]; omega)]
        simp only [bs]
        rw [putMM_ok (by omega), putMM_ok (by omega), put_new hk, List.map_append]
        rfl
    show (m__law_parting_due_b1 (nts ms) q (h, (l.map (·.1), l)) >>= forS (m__law_parting_due_b1 (nts ms)) b) = _
    rw [e]
    refine law_loop em b _ _ ?_ ?_
    · have : (putM h q.1 q.2).length ≤ h.length + 1 := by
        have := congrArg List.length (put_keys (d := h) (k := q.1) (x := q.2))
        rw [List.length_map] at this
        rw [this]
        split <;> simp
      omega
    · split
      · omega
      · rw [List.length_append, List.length_singleton]; omega
theorem PInv.start {z : Int} {a : Dc} (nd : (a.map (·.1)).Nodup) : PInv z a [] a a :=
  ⟨rfl, nd, fun x hx => by obtain ⟨v, e⟩ := look_in hx; rw [e]; rfl, fun x => rfl, fun x h => h⟩
section
variable {ms : List Nat} {ns : List Str} {z : Nat} {o : m_Order}
def packT (z : Int) (a b : Dc) : Dc × Dc := ((ptS z b (a, a)).2, (ptS z b (a, a)).1)
abbrev DueT := List Str × Dc × Dc × (Dc × Int) × (Dc × Int) × Unit
def packD (z : Int) (a b : Dc) (ra rb : Nat) : DueT := ((packT z a b).1.map (·.1), (packT z a b).1, (packT z a b).2, (a, (ra : Int)), (b, (rb : Int)), ())
def whoT {α : Type} (ms : List Nat) (a b : Dc) (ra rb : Nat) (f : Dc → Nat → Dc → Nat → α) : Option α :=
  bif shp a b then none else bif fal (mle ms) a ra b rb then some (f a ra b rb) else bif fal (mle ms) b rb a ra then some (f b rb a ra) else none
theorem b2_b1 : m__law_parting_due_b2 = m__law_parting_due_b1 := rfl
theorem due_eq {a b : Dc} {ra rb : Nat} (em : (minL (nts ms) >>= fun t => idxM (fun a b => a == b) (nts ms) t) = some (z : Int)) (hs : ns.length ≤ 100) (R1 : Row ms.length ns a) (R2 : Row ms.length ns b) (h1 : ra < ms.length) (h2 : rb < ms.length) :
    m__law_parting_due (nts ms) (a, (ra : Int)) (b, (rb : Int)) = some (whoT ms a b ra rb fun a ra b rb => packD z a b ra rb) := by
  have l1 := R1.t.ln
  have l2 := R2.t.ln
  unfold m__law_parting_due
  simp only [Option.bind_eq_bind, bs]
  rw [lshape_eq (by omega) (by omega), lfalls_eq R1.t R2.t h1 h2, lfalls_eq R2.t R1.t h2 h1]
  unfold whoT
  simp only [bs]
  cases shp a b with
  | true => rfl
  | false =>
    simp only [cfa]
    cases fal (mle ms) a ra b rb with
    | true =>
      simp only [ctr]
      rw [mapS_map (g := fun q : Str × Int => q.1) (by omega) fun _ _ => rfl, dictP_nd R1.t.nd]
      simp only [bs]
      rw [law_loop em b a a (by omega) (by omega)]
      rfl
    | false =>
      simp only [cfa]
      cases fal (mle ms) b rb a ra with
      | true =>
        simp only [ctr]
        rw [mapS_map (g := fun q : Str × Int => q.1) (by omega) fun _ _ => rfl, dictP_nd R2.t.nd]
        simp only [bs]
        rw [b2_b1, law_loop em a b b (by omega) (by omega)]
        rfl
      | false => rfl
theorem tab_eq {a b : Dc} {ra rb : Nat} (hO : IsOrd ms.length (mle ms) (mjoin ms) (mmeet ms) o) (ez : m_Order_least o = some (z : Int)) (hs : ns.length ≤ 100) (R1 : Row ms.length ns a) (R2 : Row ms.length ns b) (h1 : ra < ms.length) (h2 : rb < ms.length) (nm : Str) :
    m_parting_tables ⟨nm, a, (ra : Int)⟩ ⟨nm, b, (rb : Int)⟩ o = some (whoT ms a b ra rb fun a _ b _ => packT z a b) := by
  have l1 := R1.t.ln
  have l2 := R2.t.ln
  unfold m_parting_tables
  rw [clash_eq hO R1.t R2.t rfl rfl h1 h2]
  simp only [Option.bind_eq_bind, bs, if_true]
  unfold due whoT
  cases shp a b with
  | true => rfl
  | false =>
    simp only [cfa]
    rw [falls_eq (a := ⟨nm, a, (ra : Int)⟩) (b := ⟨nm, b, (rb : Int)⟩) hO R1.t R2.t rfl rfl h1 h2]
    simp only [bs]
    cases fal (mle ms) a ra b rb with
    | true =>
      simp only [Bool.true_or, ctr, decide_true, Bool.not_true, cfa, bs]
      rw [dictP_nd R1.t.nd, prog_loop ez b a a (by omega) (by omega)]
      rfl
    | false =>
      simp only [Bool.false_or, cfa]
      cases fal (mle ms) b rb a ra with
      | true =>
        simp only [ctr, decide_true, Bool.not_true, cfa, bs]
        rw [dictP_nd R2.t.nd, prog_loop ez a b b (by omega) (by omega)]
        rfl
      | false => rfl
theorem shown_eq {a b : Dc} {ra rb : Nat} (L : Lat ms.length (mle ms) (mjoin ms) (mmeet ms)) (hz : z < ms.length) (hz' : ∀ a, a < ms.length → mle ms z a = true) (R1 : Row ms.length ns a) (R2 : Row ms.length ns b) (h1 : ra < ms.length) (h2 : rb < ms.length) (hf : fal (mle ms) a ra b rb = true) :
    m__law_shown (nts ms) (packT z a b) (packD z a b ra rb) = some true := by
  have I := PInv.run (z := (z : Int)) b [] a a R2.t.nd (PInv.start R1.t.nd)
  rw [List.nil_append] at I
  unfold m__law_shown packD packT
  generalize ptS (z : Int) b (a, a) = P at *
  obtain ⟨h, l⟩ := P
  have I : PInv (z : Int) a b h l := I
  unfold fal at hf
  rw [Bool.and_eq_true] at hf
  obtain ⟨hf1, hf2⟩ := hf
  have hf2 : mle ms ra rb = false := by cases e : mle ms ra rb with | false => rfl | true => rw [e] at hf2; cases hf2
  simp only [Option.bind_eq_bind, bs]
  rw [show ((!true) || ((!((2 : Int) == (2 : Int))) || ((!true) || (!true)))) = false from rfl, I.ks, decide_eq_true rfl]
  simp only [Bool.not_true, Bool.or_self, cfa]
  rw [forL_nx fun x hx => by
    have e1 := I.lw x hx
    have hh : x ∈ h.map (·.1) := by rw [I.ks]; exact hx
    obtain ⟨hv, e2⟩ := look_in hh
    have e3 := I.hg x
    rw [e2] at e3
    have key : ∃ u v : Nat, u < ms.length ∧ v < ms.length ∧ (lookM a x).getD (z : Int) = (u : Int) ∧ hv = (v : Int) ∧ mle ms u v = true := by
      cases ea : lookM a x with
      | none =>
        cases eb : lookM b x with
        | none => rw [ea, eb] at e3; cases e3
        | some w =>
          rw [eb] at e3
          obtain ⟨v, hv2, ev⟩ := R2.t.rg _ (look_mem eb)
          have : hv = w := Option.some.inj e3
          exact ⟨z, v, hz, hv2, rfl, this.trans ev, hz' v hv2⟩
      | some u0 =>
        obtain ⟨u, hu, eu⟩ := R1.t.rg _ (look_mem ea)
        have eu : u0 = (u : Int) := eu
        cases eb : lookM b x with
        | none =>
          rw [ea, eb] at e3
          have : hv = u0 := Option.some.inj e3
          exact ⟨u, u, hu, hu, eu, this.trans eu, L.o.rf _ hu⟩
        | some w =>
          rw [eb] at e3
          obtain ⟨v, hv2, ev⟩ := R2.t.rg _ (look_mem eb)
          have ev : w = (v : Int) := ev
          have : hv = w := Option.some.inj e3
          have hall := List.all_eq_true.mp hf1 _ (look_mem ea)
          simp only [eb, eu, ev, Int.toNat_natCast] at hall
          exact ⟨u, v, hu, hv2, eu, this.trans ev, hall⟩
    obtain ⟨u, v, hu, hv2, eu, ev, huv⟩ := key
    rw [eu] at e1
    subst ev
    unfold m__law_shown_b1 m__law_int
    simp only [Option.bind_eq_bind, e1, e2, bs]
    rw [under_eq hu hv2, huv]
    simp [orO]]
  simp only [bs, sel]
  rw [forL_nx fun q hq => by
    have e1 := I.lw q.1 (I.sub _ (List.mem_map_of_mem hq))
    rw [look_nd R1.t.nd hq] at e1
    unfold m__law_shown_b2
    simp only [Option.bind_eq_bind, e1, bs]
    simp]
  simp only [bs, sel]
  rw [forL_nx fun q hq => by
    have e1 := I.hg q.1
    rw [look_nd R2.t.nd hq] at e1
    have e1 : lookM h q.1 = some q.2 := e1
    unfold m__law_shown_b3
    simp only [Option.bind_eq_bind, e1, bs]
    simp]
  simp only [bs, sel]
  rw [under_eq h1 h2, hf2]
  rfl
theorem turn_eq {a b : Dc} {ra rb : Nat} (L : Lat ms.length (mle ms) (mjoin ms) (mmeet ms)) (hz : z < ms.length) (hz' : ∀ a, a < ms.length → mle ms z a = true) (R1 : Row ms.length ns a) (R2 : Row ms.length ns b) (h1 : ra < ms.length) (h2 : rb < ms.length) :
    (∃ q : DueT × (Dc × Dc), (whoT ms a b ra rb fun a ra b rb => packD z a b ra rb) = some q.1 ∧ (whoT ms a b ra rb fun a _ b _ => packT z a b) = some q.2 ∧ m__law_shown (nts ms) q.2 q.1 = some true) ∨
      ((whoT ms a b ra rb fun a ra b rb => packD z a b ra rb) = none ∧ (whoT ms a b ra rb fun a _ b _ => packT z a b) = none) := by
  unfold whoT
  cases shp a b with
  | true => exact .inr ⟨rfl, rfl⟩
  | false =>
    cases e1 : fal (mle ms) a ra b rb with
    | true => exact .inl ⟨(_, _), rfl, rfl, shown_eq L hz hz' R1 R2 h1 h2 e1⟩
    | false =>
      cases e2 : fal (mle ms) b rb a ra with
      | true => exact .inl ⟨(_, _), rfl, rfl, shown_eq L hz hz' R2 R1 h2 h1 e2⟩
      | false => exact .inr ⟨rfl, rfl⟩
end
theorem law_true (sc : List Int) : m_law sc = some true := by
  obtain ⟨pot, e⟩ := pot_eq sc
  unfold m_law
  rw [e]
  simp only [Option.bind_eq_bind, bs]
  obtain ⟨ms, p1, e, hM, hl⟩ := masks_eq pot (most := 6) (by decide)
  have e : m__law_masks pot 6 = some (nts ms, p1) := e
  rw [e]
  simp only [bs, nts_len]
  rw [pairs_eq (ms := ms) (by omega)]
  simp only [bs]
  have L := mLat hM (by omega)
  have hn := L.lo
  obtain ⟨o, e, hO⟩ := Order_init_eq L (relp_gens hM)
  rw [e]
  simp only [bs]
  obtain ⟨z, hz, hz', em⟩ := min_of hM (by omega)
  obtain ⟨z2, ez, hz2, hz2'⟩ := least_eq hO L
  have := bot_uniq L.o hz hz' hz2 hz2'
  subst this
  obtain ⟨v, p2, e, hv⟩ := draw_lit p1 4 (by decide) (z := 4) rfl
  rw [e]
  simp only [bs]
  rw [show (2 : Int) + (v : Int) = ((2 + v : Nat) : Int) by omega]
  obtain ⟨ns, p3, e, nd, hs⟩ := names_eq p2 (many := 2 + v) (by omega)
  rw [e]
  simp only [bs]
  obtain ⟨d1, p4, e, R1⟩ := row_eq p3 hn (by omega) nd (Row.nil (n := ms.length) (ns := ns))
  rw [e]
  simp only [bs]
  obtain ⟨d2, p5, e, R2⟩ := second_eq p4 hn (by omega) nd R1
  rw [e]
  simp only [bs]
  obtain ⟨r1, p6, e, h1⟩ := draw_eq p5 hn
  rw [e]
  simp only [bs]
  obtain ⟨r2, p7, e, h2⟩ := draw_eq p6 hn
  rw [e]
  simp only [bs]
  have b0 : atI ns (0 : Int) = some ns[0] := atI_nat (i := 0) (by omega)
  have b1 : atI ns (1 : Int) = some ns[1] := atI_nat (i := 1) (by omega)
  have hne : ns[0] ≠ ns[1] := by
    match ns, nd, hs with
    | x :: y :: r, nd, hs => exact fun z => (List.nodup_cons.mp nd).1 (by show x ∈ y :: r; rw [show x = y from z]; exact List.mem_cons_self ..)
    | [x], nd, hs => exact absurd hs (by show ¬ 1 = 2 + v; omega)
    | [], nd, hs => exact absurd hs (by show ¬ 0 = 2 + v; omega)
  rw [b0, b1]
  rw [show mapS (fun x : Dc × Int => (some ns[0]).bind fun t => m_Record___init__ t x.1 x.2) [(d1, (r1 : Int)), (d2, (r2 : Int))] = some [⟨ns[0], d1, (r1 : Int)⟩, ⟨ns[0], d2, (r2 : Int)⟩] from by
    show (m_Record___init__ ns[0] d1 (r1 : Int) >>= _) = _
    rw [rec_eqW R1.t (by omega)]
    show ((m_Record___init__ ns[0] d2 (r2 : Int) >>= _) >>= _) = _
    rw [rec_eqW R2.t (by omega)]
    rfl]
  simp only [bs]
  have turn : ∀ q ∈ [((0 : Int), (1 : Int)), ((1 : Int), (0 : Int)), ((0 : Int), (1 : Int))], m_law_b1 d1 (r1, p6) d2 (r2, p7) (nts ms, p1) [⟨ns[0], d1, (r1 : Int)⟩, ⟨ns[0], d2, (r2 : Int)⟩] o q () = some (.nx ()) := by
    have go : ∀ {a b : Dc} {ra rb : Nat} {q : Int × Int}, Row ms.length ns a → Row ms.length ns b → ra < ms.length → rb < ms.length → atI [(d1, (r1 : Int)), (d2, (r2 : Int))] q.1 = some (a, (ra : Int)) → atI [(d1, (r1 : Int)), (d2, (r2 : Int))] q.2 = some (b, (rb : Int)) →
        atI ([⟨ns[0], d1, (r1 : Int)⟩, ⟨ns[0], d2, (r2 : Int)⟩] : List m_Record) q.1 = some ⟨ns[0], a, (ra : Int)⟩ → atI ([⟨ns[0], d1, (r1 : Int)⟩, ⟨ns[0], d2, (r2 : Int)⟩] : List m_Record) q.2 = some ⟨ns[0], b, (rb : Int)⟩ →
        m_law_b1 d1 (r1, p6) d2 (r2, p7) (nts ms, p1) [⟨ns[0], d1, (r1 : Int)⟩, ⟨ns[0], d2, (r2 : Int)⟩] o q () = some (.nx ()) := fun {a b ra rb q} Ra Rb ha hb e1 e2 e3 e4 => by
      unfold m_law_b1
      simp only [Option.bind_eq_bind]
      rw [e1, e2, e3, e4]
      simp only [bs]
      rw [due_eq em (by omega) Ra Rb ha hb, tab_eq hO ez (by omega) Ra Rb ha hb]
      simp only [bs]
      rcases turn_eq L hz hz' Ra Rb ha hb with ⟨⟨D, T⟩, k1, k2, k3⟩ | ⟨k1, k2⟩
      · rw [k1, k2]
        have k3 : m__law_shown (nts ms) T D = some true := k3
        simp only [bs, Option.isNone_some, cfa]
        rw [k3]
        rfl
      · rw [k1, k2]
        rfl
    intro q hq
    have a0 : atI [(d1, (r1 : Int)), (d2, (r2 : Int))] (0 : Int) = some (d1, (r1 : Int)) := rfl
    have a1 : atI [(d1, (r1 : Int)), (d2, (r2 : Int))] (1 : Int) = some (d2, (r2 : Int)) := rfl
    rcases List.mem_cons.mp hq with rfl | hq
    · exact go R1 R2 h1 h2 rfl rfl rfl rfl
    · rcases List.mem_cons.mp hq with rfl | hq
      · exact go R2 R1 h2 h1 rfl rfl rfl rfl
      · rw [List.mem_singleton.mp hq]
        exact go R1 R2 h1 h2 rfl rfl rfl rfl
  rw [forL_nx turn]
  simp only [bs, sel]
  rw [show atI [(d1, (r1 : Int)), (d2, (r2 : Int))] (1 : Int) = some (d2, (r2 : Int)) from rfl]
  simp only [bs]
  rw [rec_eqW R2.t (by omega)]
  simp only [bs]
  rw [show atI ([⟨ns[0], d1, (r1 : Int)⟩, ⟨ns[0], d2, (r2 : Int)⟩] : List m_Record) (0 : Int) = some ⟨ns[0], d1, (r1 : Int)⟩ from rfl]
  simp only [bs]
  unfold m_parting_tables
  rw [clash_eq (a := ⟨ns[0], d1, (r1 : Int)⟩) (b := ⟨ns[1], d2, (r2 : Int)⟩) hO R1.t R2.t rfl rfl h1 h2, if_neg hne]
  rfl
end My

set_option maxHeartbeats 0
namespace My
open PySem PySem.Spec PyProof.Rows L2 Sim
theorem ob_eq (s : PySem.W.SharedT) : ob s = hk.obs s.abs := obsXG_eq (HandSHeadRun.getT_eq s)
section
open PySem.W PySem.Calls HandSHeadRun
end
theorem glo_law (K : PySem.W.Frag) (mg : Str → Option Value) (T : Tx K mg) : mg "law" = some (.ref (He.ga K "law")) := T.glo 36 rfl
end My
open PySem PySem.W PySem.Calls PyProof.Rows
theorem PySem.Challenge.cw_askedpoints_k27_parting_tables_holds : PySem.Challenge.rw_askedpoints_k27_parting_tables.Holds := by
  w_on; o_law
  refine HandSHeadRun.head_any (r := OpenLaw.row PySem.Challenge.rw_askedpoints_k27_parting_tables) (q := view (OpenLaw.row PySem.Challenge.rw_askedpoints_k27_parting_tables).prog [42]) (H := My.hk) (ob := My.ob) (M := 12000) (loose := My.loose) (d := HandSHeadRun.topDef (OpenLaw.row PySem.Challenge.rw_askedpoints_k27_parting_tables).prog 42) (kwd := []) My.ob_eq
    (by kernel_rfl) (fun s => by kernel_rfl) My.run (by kernel_rfl) (by kernel_rfl) (by kernel_rfl) (by rfl) (by first | assumption | decide +kernel) (by decide +kernel) ⟨rfl, rfl, rfl, rfl, rfl, by decide +kernel⟩ ?hw ?hc
  case hw => w_witness2
  case hc =>
    refine L2.walk_ofE (l := PySem.Challenge.rw_askedpoints_k27_parting_tables) (n := 63) (k := 6) (x := "_law_script") (CX := L2.CX0) rfl (by decide) (by kernel_rfl) ⟨rfl, by decide, by decide⟩ ?F (fun _ _ _ _ z => z)
    intro w mg fa h Y G hmg0
    obtain ⟨K, KX, c⟩ := Y
    have T : My.Tx K mg := Sim.TxX.mk' KX G c
    have e : (HandSHeadRun.topDef (OpenLaw.row PySem.Challenge.rw_askedpoints_k27_parting_tables).prog 42).name = ("law" : PySem.Str) := by kernel_rfl
    rw [e, My.glo_law K mg T] at hmg0
    cases hmg0
    obtain ⟨fd, F, hF⟩ := My.ok_law (w := w) T
    exact ⟨K, fd, _, KX, fun s u => F.bindsA (ps := ["_law_script"]) (fun kV doc pm an cdv ct us hl => by (cases us with | nil => cases hl | cons a t => cases t with | nil => rfl | cons b t => cases hl)) s [u] rfl, fun H a ns hl _ hS => ⟨H, (ns, ()), true, Evl.Ex.refl _, ⟨.ref a, [], rfl, ⟨a, rfl, hS⟩, rfl⟩, My.law_true ns, fun v H2 G2 u hv => hv⟩, fun base _ _ => hF base⟩
