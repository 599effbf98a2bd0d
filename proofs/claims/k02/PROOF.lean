import PyProof.Rows.All
import Wide.All
import OpenK.AllK
import Wide.FinOn
import HandS.ForMost
import HandS.Evl
import HandS.SortInts
import HandS.Wide
import HandS.More
import HandS.IsInst
import HandS.Defaults
import HandS.HeadHook1
import HandS.HeadHook2
import KE.DataEq
import HandS.HeadHook3
import HandS.Exc
import HandS.Conv
import KE.KSuper
import KE.KExcSuper
import HandS.ExcInit
import HandS.Nested
import KE.KExcInit
import HandS.ExcField
import HandS.ExcIs
import HandS.Slots
import HandS.ExcOwn
import HandS.TryMany
import HandS.CallSlots
import HandS.Property
import HandS.Style
import HandS.ClsMeth
import HandS.IterNext
import HandS.IterVal
import HandS.OwnIter
import KE.KOwnIter
import HandS.SlotsOwn
import HandS.DictComp
import PyProof.StrBlock2
import HandS.Text
import HandS.FStr
import HandS.Zip
import KE.KCallOwn
import HandS.CallLocal
import HandS.Finally
import KE.KLam
import HandS.NestedK
import HandS.Lambda
import KE.KNestM
import HandS.EndTab
import HandS.HeadWalk
import HandS.HeadHook4
import KE.KOpsOwn
import HandS.Iter
import HandS.Walk
import PyProof.EqAt
import KE.KEqDict
import HandS.OwnEq
import PyProof.ListRange
import HandS.RevTup
import HandS.Rev
import KE.KDictPairs
import HandS.Dict
import HandS.Comp
import HandS.GenList
import HandS.MakeKwOnly
import PyProof.InstEq
import HandS.NamedTupSort
import KE.SortKeyHeap
import HandS.List
import HandS.Star
import HandS.MakeKw
import KE.KxField
import HandS.StrMore
import HandS.Codes
import KE.KStateDown
import Lean
import HandS.WordsExc
import HandS.Head0
import HandS.Head1
import HandS.Head2
import HandS.HeadEnd
import PySem.Challenge.RW_askedpoints_k02_refused_orders
set_option Elab.async false
set_option linter.all false
set_option maxRecDepth 100000
section
/-! Sim: what a reading does, told by plain Lean data (mirrors). -/
namespace Sim
open PySem L2 Evl

/-! ### heaps: the data heap G below the heap H -/
structure Up (G H G2 H2 : Hp) : Prop where
  gg : Ex G G2
  gh : Ex G2 H2
  hh : Ex H H2
  nw : ∀ a, H a ≠ none → G a = none → G2 a = none
theorem Up.refl {G H : Hp} (e : Ex G H) : Up G H G H := ⟨Ex.refl _, e, Ex.refl _, fun _ _ h => h⟩
theorem Up.trans {G H G1 H1 G2 H2 : Hp} (a : Up G H G1 H1) (b : Up G1 H1 G2 H2) : Up G H G2 H2 :=
  ⟨a.gg.trans b.gg, b.gh, a.hh.trans b.hh, fun x h1 h2 => b.nw x (fun z => h1 (by
    cases q : H x with
    | none => rfl
    | some o => rw [a.hh x o q] at z; cases z)) (a.nw x h1 h2)⟩
/-- nothing new is data -/
theorem Up.same {G H H2 : Hp} (e : Ex G H) (h : Ex H H2) : Up G H G H2 := ⟨Ex.refl _, e.trans h, h, fun _ _ q => q⟩
theorem Up.lift {G Gw H G2 H2 : Hp} (u : Up G H G2 H2) (e1 : Ex G Gw) (e2 : Ex Gw H) : ∃ G3, Up Gw H G3 H2 ∧ Ex G2 G3 := by
  refine ⟨fun a => match H a with | none => G2 a | some _ => Gw a, ⟨fun a o h => ?_, fun a o h => ?_, u.hh, fun a h1 h2 => ?_⟩, fun a o h => ?_⟩
  · show (match H a with | none => G2 a | some _ => Gw a) = some o
    rw [e2 a o h]; exact h
  · have h' : (match H a with | none => G2 a | some _ => Gw a) = some o := h
    cases q : H a with
    | none => rw [q] at h'; exact u.gh a o h'
    | some o' =>
      rw [q] at h'
      exact u.hh a o (e2 a o h')
  · show (match H a with | none => G2 a | some _ => Gw a) = none
    cases q : H a with
    | none => exact absurd q h1
    | some o' => exact h2
  · show (match H a with | none => G2 a | some _ => Gw a) = some o
    cases q : H a with
    | none => exact h
    | some o' =>
      show Gw a = some o
      cases r : G a with
      | none => rw [u.nw a (by rw [q]; simp) r] at h; cases h
      | some o2 =>
        have := u.gg a o2 r
        rw [h] at this
        cases this
        exact e1 a _ r
/-! ### data as it stands in a heap -/
structure Rep (α : Type) where
  r : Hp → V → α → Prop
  mono : ∀ {H H' : Hp} {v : V} {x : α}, Ex H H' → r H v x → r H' v x
/-- told by the value alone -/
def Rep.Sc {α : Type} (R : Rep α) : Prop := ∀ {H H' : Hp} {v : V} {x : α}, R.r H v x → R.r H' v x

def rI : Rep Int := ⟨fun _ v x => v = .int x, fun _ h => h⟩
def rB : Rep Bool := ⟨fun _ v x => v = .bl x, fun _ h => h⟩
def rS : Rep Str := ⟨fun _ v x => v = .str x, fun _ h => h⟩
def rA : Rep Addr := ⟨fun _ v a => v = .ref a, fun _ h => h⟩
def rL {α : Type} (R : Rep α) : Rep (List α) := ⟨fun H v xs => ∃ a vs, v = .ref a ∧ H a = some (.lst vs) ∧ Paired (R.r H) vs xs,
  fun e ⟨a, vs, h1, h2, h3⟩ => ⟨a, vs, h1, e a _ h2, Paired.mapP h3 fun _ _ => R.mono e⟩⟩
/-- a tuple; its object may be told -/
theorem rd_up {H H' : Hp} {a : Addr} {u : HO} (e : Ex H H') (h : Rd H a u) : Rd H' a u := h.elim (fun h => .inl (e a _ h)) fun ⟨o, h⟩ => .inr ⟨o, e a _ h⟩
def rT {α : Type} (R : Rep α) : Rep (List α) := ⟨fun H v xs => ∃ a vs, v = .ref a ∧ Rd H a (.tup vs) ∧ Paired (R.r H) vs xs,
  fun e ⟨a, vs, h1, h2, h3⟩ => ⟨a, vs, h1, rd_up e h2, Paired.mapP h3 fun _ _ => R.mono e⟩⟩
def rP {α β : Type} (R : Rep α) (S : Rep β) : Rep (α × β) := ⟨fun H v p => ∃ a x y, v = .ref a ∧ H a = some (.tup [x, y]) ∧ R.r H x p.1 ∧ S.r H y p.2,
  fun e ⟨a, x, y, h1, h2, h3, h4⟩ => ⟨a, x, y, h1, e a _ h2, R.mono e h3, S.mono e h4⟩⟩
def rO {α : Type} (R : Rep α) : Rep (Option α) := ⟨fun H v o => match o with | none => v = .non | some x => R.r H v x,
  fun {H H' v o} e h => by cases o with | none => exact h | some x => exact R.mono e h⟩

/-! ### mirrors that may lack an answer -/
/-! ### expressions -/
/-- te reads as m: the data heap is G, W is known to stand as well (cells that are only read) -/
def E {α : Type} (te : TE) (σ : L2.St) (G W : Hp) (R : Rep α) (m : Option α) : Prop :=
  ∀ x, m = some x → ∀ H, Ex G H → Ex W H → ∀ Q : VK, (∀ v H2 G2, Up G H G2 H2 → R.r G2 v x → Q v H2) → te σ H Q
def ET (tt : TT) (σ : L2.St) (W : Hp) (m : Option Bool) : Prop :=
  ∀ b, m = some b → ∀ H, Ex W H → ∀ Q : Bool → Hp → Prop, (∀ H2, Ex H H2 → Q b H2) → tt σ H Q
structure AR (ι : Type) where
  r : Hp → List V → ι → Prop
  mono : ∀ {H H' : Hp} {v : List V} {x : ι}, Ex H H' → r H v x → r H' v x
def EA {ι : Type} (ta : TA) (σ : L2.St) (G W : Hp) (A : AR ι) (m : Option ι) : Prop :=
  ∀ x, m = some x → ∀ H, Ex G H → Ex W H → ∀ Q : List V → Hp → Prop, (∀ vs H2 G2, Up G H G2 H2 → A.r G2 vs x → Q vs H2) → ta σ H Q
section
variable {K : PySem.W.Frag} {σ : L2.St} {G H G' W W' : Hp} {ta tb te : TE} {t u : TT} {α β γ ι : Type} {R : Rep α} {S : Rep β} {T : Rep γ} {A : AR ι}
theorem E.mono {m : Option α} (e : Ex G G') (e' : Ex W W') (h : E te σ G W R m) : E te σ G' W' R m := fun x hx H e1 e2 Q q =>
  h x hx H (e.trans e1) (e'.trans e2) Q fun v H2 G2 up r => by
    obtain ⟨G3, u3, e3⟩ := up.lift e e1
    exact q v H2 G3 u3 (R.mono e3 r)
theorem ET.mono {m : Option Bool} (e : Ex W W') (h : ET t σ W m) : ET t σ W' m := fun x hx H e1 Q q => h x hx H (e.trans e1) Q q
theorem EA.mono {ta : TA} {m : Option ι} (e : Ex G G') (e' : Ex W W') (h : EA ta σ G W A m) : EA ta σ G' W' A m := fun x hx H e1 e2 Q q =>
  h x hx H (e.trans e1) (e'.trans e2) Q fun v H2 G2 up r => by
    obtain ⟨G3, u3, e3⟩ := up.lift e e1
    exact q v H2 G3 u3 (A.mono e3 r)
/-- a value that hangs on no heap -/
theorem E.s {m : Option α} (sc : R.Sc) (h : E te σ W W R m) : E te σ G W R m := fun x hx H e1 e2 Q q =>
  h x hx H e2 e2 Q fun v H2 G2 up r => q v H2 G (Up.same e1 up.hh) (sc r)
end
end Sim

namespace Sim
open PySem L2 Evl

/-! ### cells: objects that change -/
structure CP where
  p : Hp → HO → Prop
  mono : ∀ {G G' : Hp} {o : HO}, Ex G G' → p G o → p G' o
def cL {α : Type} (R : Rep α) (xs : List α) : CP := ⟨fun G o => ∃ vs, o = .lst vs ∧ Paired (R.r G) vs xs, fun e ⟨vs, h1, h2⟩ => ⟨vs, h1, Paired.mapP h2 fun _ _ => R.mono e⟩⟩
abbrev Cs := List (Addr × CP)
structure Wd (G H : Hp) (cs : Cs) : Prop where
  ex : Ex G H
  at_ : ∀ c ∈ cs, G c.1 = none ∧ ∃ o, H c.1 = some o ∧ c.2.p G o
  nd : (cs.map (·.1)).Nodup
theorem Wd.nil {G H : Hp} (e : Ex G H) : Wd G H [] := ⟨e, fun _ h => absurd h List.not_mem_nil, List.nodup_nil⟩
section
variable {G H G2 H2 : Hp} {cs : Cs} {l : Addr} {cp cp' : CP}
theorem Wd.head (w : Wd G H ((l, cp) :: cs)) : G l = none ∧ ∃ o, H l = some o ∧ cp.p G o := w.at_ _ (List.mem_cons_self ..)
theorem Wd.up (w : Wd G H cs) (u : Up G H G2 H2) : Wd G2 H2 cs := ⟨u.gh, fun c h => by
  obtain ⟨h1, o, h2, h3⟩ := w.at_ c h
  exact ⟨u.nw _ (by rw [h2]; simp) h1, o, u.hh _ _ h2, c.2.mono u.gg h3⟩, w.nd⟩
theorem Wd.sc (w : Wd G H cs) (u : Ex H H2) : Wd G H2 cs := w.up (Up.same w.ex u)
/-- a new cell is laid -/
theorem Wd.new (w : Wd G H cs) {o : HO} (n : H l = none) (h : cp.p G o) : Wd G (upd H l o) ((l, cp) :: cs) := by
  refine ⟨w.ex.mut (fresh_back w.ex n), fun c hc => ?_, ?_⟩
  · rcases List.mem_cons.mp hc with hc | hc
    · subst hc; exact ⟨fresh_back w.ex n, o, upd_same, h⟩
    · obtain ⟨h1, o', h2, h3⟩ := w.at_ c hc
      exact ⟨h1, o', by rw [upd_ne (ne_of_none h2 n)]; exact h2, h3⟩
  · show (l :: cs.map (·.1)).Nodup
    refine List.nodup_cons.mpr ⟨fun hm => ?_, w.nd⟩
    obtain ⟨c, hc, e⟩ := List.mem_map.mp hm
    obtain ⟨_, o', h2, _⟩ := w.at_ c hc
    exact ne_of_none h2 n e
end
/-! ### promises -/
/-- cells change -/
structure Fr (G H G2 H2 : Hp) (ls : List Addr) : Prop where
  gg : Ex G G2
  fr : ∀ a o, H a = some o → a ∉ ls → H2 a = some o
  nw : ∀ a, H a ≠ none → G a = none → G2 a = none
  st : ∀ a, H a ≠ none → H2 a ≠ none
theorem Wd.app {G H : Hp} {a b : Cs} (w : Wd G H (a ++ b)) : Wd G H a ∧ Wd G H b := ⟨⟨w.ex, fun c h => w.at_ c (List.mem_append_left _ h), by
  have := w.nd; rw [List.map_append] at this; exact (List.nodup_append.mp this).1⟩, ⟨w.ex, fun c h => w.at_ c (List.mem_append_right _ h), by
  have := w.nd; rw [List.map_append] at this; exact (List.nodup_append.mp this).2.1⟩⟩
theorem Wd.join {G H G2 H2 : Hp} {a a' b : Cs} (w : Wd G H (a ++ b)) (f : Fr G H G2 H2 (a.map (·.1))) (w2 : Wd G2 H2 a') (e : a'.map (·.1) = a.map (·.1)) : Wd G2 H2 (a' ++ b) := by
  have nd : (a.map (·.1) ++ b.map (·.1)).Nodup := by have := w.nd; rw [List.map_append] at this; exact this
  refine ⟨w2.ex, fun c h => ?_, by rw [List.map_append, e]; exact nd⟩
  rcases List.mem_append.mp h with h | h
  · exact w2.at_ c h
  · obtain ⟨h1, o, h2, h3⟩ := w.app.2.at_ c h
    have hn : c.1 ∉ a.map (·.1) := fun z => (List.nodup_append.mp nd).2.2 _ z _ (List.mem_map_of_mem h) rfl
    exact ⟨f.nw _ (by rw [h2]; simp) h1, o, f.fr _ _ h2 hn, c.2.mono f.gg h3⟩
theorem Fr.refl {G H : Hp} {ls : List Addr} : Fr G H G H ls := ⟨Ex.refl _, fun _ _ h _ => h, fun _ _ h => h, fun _ h => h⟩
theorem some_ne {H H2 : Hp} (e : Ex H H2) {a : Addr} (h : H a ≠ none) : H2 a ≠ none := by
  cases q : H a with
  | none => exact absurd q h
  | some o => rw [e a o q]; simp
theorem Up.fr {G H G2 H2 : Hp} {ls : List Addr} (u : Up G H G2 H2) : Fr G H G2 H2 ls := ⟨u.gg, fun a o h _ => u.hh a o h, u.nw, fun a h => some_ne u.hh h⟩
theorem Fr.trans {G H G1 H1 G2 H2 : Hp} {ls : List Addr} (a : Fr G H G1 H1 ls) (b : Fr G1 H1 G2 H2 ls) : Fr G H G2 H2 ls :=
  ⟨a.gg.trans b.gg, fun x o h1 h2 => b.fr x o (a.fr x o h1 h2) h2, fun x h1 h2 => b.nw x (a.st x h1) (a.nw x h1 h2), fun x h => b.st x (a.st x h)⟩
end Sim

namespace Sim
open PySem L2 Evl
section
variable {K : PySem.W.Frag} {σ : L2.St} {G H G' W W' : Hp} {ta tb te tc : TE} {t u : TT} {α β γ ι κ : Type} {R : Rep α} {S : Rep β} {T : Rep γ} {A : AR ι}

/-! ### mirrors of operations that may lack an answer -/
/-! ### and, or, not, if -/
/-! ### arguments, calls -/
/-- an expression that makes a new list -/
def EL (te : TE) (σ : L2.St) (G W : Hp) (R : Rep α) (m : Option (List α)) : Prop :=
  ∀ xs, m = some xs → ∀ H, Ex G H → Ex W H → ∀ Q : VK, (∀ p H2 G2, H p = none → Up G H G2 H2 → Wd G2 H2 [(p, cL R xs)] → Q (.ref p) H2) → te σ H Q
theorem Up.frz {G H G1 H1 G2 : Hp} {p : Addr} (hp : H p = none) (u : Up G H G1 H1) (e : Ex G1 G2) (e2 : Ex G2 H1) (n : ∀ a, a ≠ p → G1 a = none → G2 a = none) : Up G H G2 H1 :=
  ⟨u.gg.trans e, e2, u.hh, fun a h1 h2 => n a (fun z => by subst z; exact h1 hp) (u.nw a h1 h2)⟩
theorem frz1 {G H G1 H1 : Hp} {p : Addr} {xs : List α} (hp : H p = none) (u : Up G H G1 H1) (w : Wd G1 H1 [(p, cL R xs)]) : ∃ G2, Up G H G2 H1 ∧ (rL R).r G2 (.ref p) xs := by
  obtain ⟨h1, o, h2, vs, rfl, h3⟩ := w.head
  refine ⟨upd G1 p (.lst vs), u.frz hp (Ex.new h1) (fun a u' e => ?_) (fun a ne h => by rw [upd_ne ne]; exact h), p, vs, rfl, upd_same, Paired.mapP h3 fun _ _ => R.mono (Ex.new h1)⟩
  by_cases q : a = p
  · subst q; rw [upd_same] at e; cases e; exact h2
  · rw [upd_ne q] at e; exact w.ex a u' e
theorem EL.e {m : Option (List α)} (h : EL te σ G W R m) : E te σ G W (rL R) m := fun x hx H e e' Q q => h x hx H e e' Q fun p H2 G2 hp u w => by
  obtain ⟨G3, u3, r3⟩ := frz1 hp u w
  exact q _ H2 G3 u3 r3
theorem Wd.lift {Gw G2 : Hp} {H : Hp} {cs : Cs} (w : Wd G2 H cs) (e : Ex G2 Gw) (e2 : Ex Gw H) (n : ∀ c ∈ cs, Gw c.1 = none) : Wd Gw H cs := ⟨e2, fun c h => by
  obtain ⟨h1, o, h2, h3⟩ := w.at_ c h
  exact ⟨n c h, o, h2, c.2.mono e h3⟩, w.nd⟩
theorem Up.lift' {G Gw H G2 H2 : Hp} (u : Up G H G2 H2) (e1 : Ex G Gw) (e2 : Ex Gw H) : ∃ G3, Up Gw H G3 H2 ∧ Ex G2 G3 ∧ ∀ a, H a = none → G2 a = none → G3 a = none := by
  refine ⟨fun a => match H a with | none => G2 a | some _ => Gw a, ⟨fun a o h => ?_, fun a o h => ?_, u.hh, fun a h1 h2 => ?_⟩, fun a o h => ?_, fun a h1 h2 => ?_⟩
  · show (match H a with | none => G2 a | some _ => Gw a) = some o
    rw [e2 a o h]; exact h
  · have h' : (match H a with | none => G2 a | some _ => Gw a) = some o := h
    cases q : H a with
    | none => rw [q] at h'; exact u.gh a o h'
    | some o' =>
      rw [q] at h'
      exact u.hh a o (e2 a o h')
  · show (match H a with | none => G2 a | some _ => Gw a) = none
    cases q : H a with
    | none => exact absurd q h1
    | some o' => exact h2
  · show (match H a with | none => G2 a | some _ => Gw a) = some o
    cases q : H a with
    | none => exact h
    | some o' =>
      show Gw a = some o
      cases r : G a with
      | none => rw [u.nw a (by rw [q]; simp) r] at h; cases h
      | some o2 =>
        have := u.gg a o2 r
        rw [h] at this
        cases this
        exact e1 a _ r
  · show (match H a with | none => G2 a | some _ => Gw a) = none
    rw [h1]; exact h2
theorem EL.mono {m : Option (List α)} (e : Ex G G') (e' : Ex W W') (h : EL te σ G W R m) : EL te σ G' W' R m := fun x hx H e1 e2 Q q => h x hx H (e.trans e1) (e'.trans e2) Q fun p H2 G2 hp u w => by
  obtain ⟨G3, u3, e3, n3⟩ := u.lift' e e1
  exact q p H2 G3 hp u3 (w.lift e3 u3.gh fun c hc => by
    cases List.mem_singleton.mp hc
    exact n3 p hp w.head.1)
/-! ### built-ins -/
def sz (n : Nat) : Bool := decide (n < 100000)
/-! ### displays -/
end
end Sim

namespace Sim
open PySem L2 Evl

/-! ### mirrors of loops -/
section
variable {α σ ρ : Type}
end
/-! ### the world of a def -/
structure Wo (G0 H0 : Hp) (ls : List Addr) (G H : Hp) (cs : Cs) : Prop where
  w : Wd G H cs
  f : Fr G0 H0 G H ls
  lo : ∀ c ∈ cs, c.1 ∈ ls ∨ H0 c.1 = none
section
variable {K : PySem.W.Frag} {σ : L2.St} {G0 H0 G H G2 H2 : Hp} {ls : List Addr} {cs : Cs} {l : Addr} {cp cp' : CP} {ta tb te tc : TE} {t u : TT} {α β γ ι κ : Type} {R : Rep α} {S : Rep β} {T : Rep γ} {A : AR ι}
theorem Wo.ex (w : Wo G0 H0 ls G H cs) : Ex G H := w.w.ex
theorem Wo.up (w : Wo G0 H0 ls G H cs) (u : Up G H G2 H2) : Wo G0 H0 ls G2 H2 cs := ⟨w.w.up u, w.f.trans u.fr, w.lo⟩
theorem Wo.sc (w : Wo G0 H0 ls G H cs) (u : Ex H H2) : Wo G0 H0 ls G H2 cs := w.up (Up.same w.ex u)
/-- the i-th cell -/
theorem Wd.getAt {i : Nat} (w : Wd G H cs) (h : cs[i]? = some (l, cp)) : G l = none ∧ ∃ o, H l = some o ∧ cp.p G o := w.at_ _ (List.mem_of_getElem? h)
theorem nodup_ix {as : List Addr} (nd : as.Nodup) {i j : Nat} {x : Addr} (h1 : as[i]? = some x) (h2 : as[j]? = some x) : i = j := by
  obtain ⟨a1, a2⟩ := List.getElem?_eq_some_iff.mp h1
  obtain ⟨b1, b2⟩ := List.getElem?_eq_some_iff.mp h2
  have p := List.pairwise_iff_getElem.mp nd
  rcases Nat.lt_trichotomy i j with q | q | q
  · exact absurd (a2.trans b2.symm) (p i j a1 b1 q)
  · exact q
  · exact absurd (b2.trans a2.symm) (p j i b1 a1 q)
theorem Fr.put (f : Fr G0 H0 G H ls) {o : HO} (h : l ∈ ls ∨ H0 l = none) : Fr G0 H0 G (upd H l o) ls := ⟨f.gg, fun a u h1 h2 => by
  have ne : a ≠ l := fun z => by
    subst z
    rcases h with h | h
    · exact h2 h
    · rw [h] at h1; cases h1
  rw [upd_ne ne]; exact f.fr a u h1 h2, f.nw, fun a h1 => by
  by_cases q : a = l
  · subst q; rw [upd_same]; simp
  · rw [upd_ne q]; exact f.st a h1⟩
theorem Wo.new (w : Wo G0 H0 ls G H cs) {o : HO} (n : H l = none) (h : cp.p G o) : Wo G0 H0 ls G (upd H l o) ((l, cp) :: cs) := by
  have n0 : H0 l = none := by
    cases q : H0 l with
    | none => rfl
    | some o => exact absurd n (w.f.st l (by rw [q]; simp))
  exact ⟨w.w.new n h, w.f.put (.inr n0), fun c hc => by
    rcases List.mem_cons.mp hc with hc | hc
    · subst hc; exact .inr n0
    · exact w.lo c hc⟩
end
end Sim

namespace Sim
open PySem L2 Evl
section
variable {K : PySem.W.Frag} {σ : L2.St} {G0 H0 G H G2 H2 W : Hp} {ls : List Addr} {cs : Cs} {l : Addr} {cp cp' : CP} {ta tb te tc : TE} {t u : TT} {α β γ ι κ : Type} {R : Rep α} {S : Rep β} {T : Rep γ} {A : AR ι} {D : Ends} {tu tv tz : TS} {g : TG}

/-! ### expressions in the world -/
/-! ### a def that changes one cell -/
/-! ### readings opened -/
/-! ### statements -/
/-! ### list cells, by methods -/
/-! ### loops -/
end
end Sim

namespace Sim
open PySem L2 Evl
section
variable {α β : Type}
end
section
variable {K : PySem.W.Frag} {σ : L2.St} {G H W : Hp} {te tl : TE} {tt : TT} {α β γ : Type} {R : Rep α} {S : Rep β} {T : Rep γ}
end
end Sim

namespace Sim
open PySem L2 Evl
section
variable {K : PySem.W.Frag} {σ : L2.St} {G0 H0 G H G2 H2 W : Hp} {ls : List Addr} {cs : Cs} {l : Addr} {cp cp' : CP} {ta tb te tc : TE} {t u : TT} {α β γ ι κ : Type} {R : Rep α} {S : Rep β} {T : Rep γ} {A : AR ι} {D : Ends} {tu tv tz : TS} {g : TG}
theorem E.is {m : Option α} {x : α} (h : E te σ G W R m) (hm : m = some x) : E te σ G W R (some x) := by rw [← hm]; exact h
theorem ET.is {m : Option Bool} {x : Bool} (h : ET t σ W m) (hm : m = some x) : ET t σ W (some x) := by rw [← hm]; exact h
theorem EL.is {m : Option (List α)} {x : List α} (h : EL te σ G W R m) (hm : m = some x) : EL te σ G W R (some x) := by rw [← hm]; exact h
/-- items of one kind -/
def EAL (n : Nat) (ta : TA) (σ : L2.St) (G W : Hp) (R : Rep α) (m : Option (List α)) : Prop :=
  ∀ xs, m = some xs → xs.length = n ∧ ∀ H, Ex G H → Ex W H → ∀ Q : List V → Hp → Prop, (∀ vs H2 G2, Up G H G2 H2 → Paired (R.r G2) vs xs → Q vs H2) → ta σ H Q
theorem EAL.mono {n : Nat} {G' W' : Hp} {ta : TA} {m : Option (List α)} (e : Ex G G') (e' : Ex W W') (h : EAL n ta σ G W R m) : EAL n ta σ G' W' R m := fun x hx => ⟨(h x hx).1, fun H e1 e2 Q q =>
  (h x hx).2 H (e.trans e1) (e'.trans e2) Q fun v H2 G2 up r => by
    obtain ⟨G3, u3, e3⟩ := up.lift e e1
    exact q v H2 G3 u3 (Paired.mapP r fun _ _ => R.mono e3)⟩
/-! ### cuts, tests opened -/
end
end Sim

namespace Sim
open PySem L2 Evl
section
variable {K : PySem.W.Frag} {σ : L2.St} {G0 H0 G H G2 H2 W : Hp} {ls : List Addr} {cs : Cs} {l : Addr} {cp cp' : CP} {ta tb te tc : TE} {t u : TT} {α β γ ι κ : Type} {R : Rep α} {S : Rep β} {T : Rep γ} {A : AR ι} {D : Ends} {tu tv tz : TS} {g : TG}
theorem cl_sc {xs : List α} (h : R.Sc) {o : HO} (q : (cL R xs).p G o) : (cL R xs).p G2 o := by
  obtain ⟨vs, e, p⟩ := q
  exact ⟨vs, e, Paired.mapP p fun _ _ r => h r⟩
theorem EL.s {m : Option (List α)} (sc : R.Sc) (h : EL te σ W W R m) : EL te σ G W R m := fun xs hx H e e' Q q => h xs hx H e' e' Q fun p H2 G2 hp u w => by
  obtain ⟨h1, o, h2, h3⟩ := w.head
  exact q p H2 G hp (Up.same e u.hh) ⟨e.trans u.hh, fun c hc => by
    rw [List.mem_singleton.mp hc]
    exact ⟨fresh_back e hp, o, h2, cl_sc sc h3⟩, List.nodup_cons.mpr ⟨List.not_mem_nil, List.nodup_nil⟩⟩
end
/-! ### the text's facts -/
structure Tx (fa : List He.Fa) (fn : List He.DefD) (K : PySem.W.Frag) (mg : Str → Option Value) : Prop where
  ex : ∃ h : Heap, K.In h ∧ h.Ns mainGlobals mg
  c : He.SaysD fa fn K
section
variable {fa : List He.Fa} {fn : List He.DefD} {K : PySem.W.Frag} {mg : Str → Option Value} {P : Program} {w : World} {base : Heap}
theorem Tx.glo (T : Tx fa fn K mg) (i : Nat) {x : Str} (h : fa[i]? = some (.glo x)) : mg x = some (.ref (He.ga K x)) := by
  obtain ⟨h', X, G⟩ := T.ex
  exact He.glo_ok X G (T.c.fact i h)
theorem Tx.free (T : Tx fa fn K mg) (i : Nat) {x : Str} (h : fa[i]? = some (.free x)) : mg x = none := by
  obtain ⟨h', X, G⟩ := T.ex
  exact He.free_ok X G (T.c.fact i h)
theorem Tx.cls (T : Tx fa fn K mg) (i : Nat) {x : Str} (h : fa[i]? = some (.cls x)) : Cls K (He.ga K x) := He.cls_ok (T.c.fact i h)
theorem Tx.noat (T : Tx fa fn K mg) (i : Nat) {x f : Str} (h : fa[i]? = some (.noat x f)) : NoAttr K (He.ga K x) f := He.noat_ok (T.c.fact i h)
theorem Tx.meth (T : Tx fa fn K mg) (i : Nat) {x m : Str} (h : fa[i]? = some (.meth x m)) : Meth K (He.ga K x) m (He.ma K (He.ga K x) m) := He.meth_ok (T.c.fact i h)
theorem Tx.mkr (T : Tx fa fn K mg) (i : Nat) {x : Str} (h : fa[i]? = some (.mkr x)) : Mk K (He.ga K x) (He.ma K (He.ga K x) "__init__") := He.mkr_ok (T.c.fact i h)
end
end Sim

namespace Sim
open PySem L2 Evl
/-! ### the hook: facts, defs, and further Bools -/
structure TxE (fa : List He.Fa) (fn : List He.DefD) (es : List (PySem.W.Frag → Bool)) (K : PySem.W.Frag) (mg : Str → Option Value) : Prop extends Tx fa fn K mg where
  x : (es.all fun e => e K) = true
/-! ### objects -/
structure Pd where
  p : Hp → V → Prop
  mono : ∀ {H H' : Hp} {v : V}, Ex H H' → p H v → p H' v
def Fl (ns : List Str) (ps : List Pd) (H : Hp) (fs : List (Str × V)) : Prop := fs.map (·.1) = ns ∧ Paired (fun v (q : Pd) => q.p H v) (fs.map (·.2)) ps
theorem Fl.mono {ns : List Str} {ps : List Pd} {H H' : Hp} {fs : List (Str × V)} (e : Ex H H') (h : Fl ns ps H fs) : Fl ns ps H' fs := ⟨h.1, Paired.mapP h.2 fun _ q => q.mono e⟩
def rObj {α : Type} (C : Addr) (ns : List Str) (fl : α → List Pd) : Rep α := ⟨fun H v x => ∃ a dx fs, v = .ref a ∧ H a = some (.ins C dx fs) ∧ Fl ns (fl x) H fs, fun e ⟨a, dx, fs, h1, h2, h3⟩ => ⟨a, dx, fs, h1, e a _ h2, h3.mono e⟩⟩
def cI (C : Addr) (ns : List Str) (ps : List Pd) : CP := ⟨fun G o => ∃ dx fs, o = .ins C dx fs ∧ Fl ns ps G fs, fun e ⟨dx, fs, h1, h2⟩ => ⟨dx, fs, h1, h2.mono e⟩⟩
section
variable {K : PySem.W.Frag} {σ : L2.St} {G0 H0 G H G2 H2 W : Hp} {ls : List Addr} {cs : Cs} {l C : Addr} {cp cp' : CP} {ta tb te tc to : TE} {t u : TT} {α β γ ι κ : Type} {R : Rep α} {S : Rep β} {T : Rep γ} {A : AR ι} {D : Ends} {tu tv tz : TS} {g : TG} {ns : List Str} {fl : α → List Pd}
/-! ### isinstance, the kind known -/
/-! ### == of data -/
end
end Sim

namespace Sim
open PySem L2 Evl
section
variable {K : PySem.W.Frag} {σ : L2.St} {G0 H0 G H G2 H2 W : Hp} {ls : List Addr} {cs : Cs} {l C : Addr} {cp cp' : CP} {ta tb te tc to : TE} {t u : TT} {α β γ ι κ : Type} {R : Rep α} {S : Rep β} {T : Rep γ} {A : AR ι} {D : Ends} {tu tv tz : TS} {g : TG} {ns : List Str} {fl : α → List Pd}
/-! ### a list lent to a def that only reads it -/
/-- at l, its items standing in the data heap, it itself not -/
structure Lent (G W : Hp) (l : Addr) (B : Rep κ) (ys : List κ) : Prop where
  n : G l = none
  at_ : ∃ vs, W l = some (.lst vs) ∧ Paired (B.r G) vs ys
theorem Lent.up {B : Rep κ} {ys : List κ} {G1 H1 H : Hp} (L : Lent G W l B ys) (e' : Ex W H) (u : Up G H G1 H1) : Lent G1 H1 l B ys := by
  obtain ⟨vs, h2, h3⟩ := L.at_
  exact ⟨u.nw _ (by rw [e' _ _ h2]; simp) L.n, vs, u.hh _ _ (e' _ _ h2), Paired.mapP h3 fun _ _ => B.mono u.gg⟩
theorem Lent.ne {B : Rep κ} {ys : List κ} {x : Addr} {ps : List Pd} (L : Lent G H l B ys) (w : Wd G H [(x, cI C ns ps)]) : l ∉ [x] := fun z => by
  obtain ⟨vs, h2, _⟩ := L.at_
  obtain ⟨_, o, k2, dx, fs, rfl, _⟩ := w.head
  rw [List.mem_singleton.mp z, k2] at h2
  cases h2
end
/-! ### a method by its name, with its promise -/
/-! ### data that is compared -/
section
variable {α β : Type} {R : Rep α} {S : Rep β}
end
end Sim
namespace Sim
open PySem L2 Evl
section
variable {K : PySem.W.Frag} {σ : L2.St} {G0 H0 G H G2 H2 W : Hp} {ls : List Addr} {cs : Cs} {l C : Addr} {te : TE} {α β : Type} {R : Rep α} {S : Rep β} {ns : List Str}
end
end Sim

set_option maxHeartbeats 4000000
/-! own exceptions: an __init__ whose first statement is super().__init__(text) -/
namespace Sim
open PySem PySem.Spec PyProof.Rows L2 PySem.W PySem.Calls NdefX
/-- what the written part says of such an __init__ -/
structure SupC (P : Program) (K : Frag) (mg : Str → Option Value) (C f : Addr) (fd : FuncData) (F : NF) (ps : List Str) : Prop where
  lk : ∃ oc od osl kV doc pm an ct, fd = PySem.W.fnX F.name F.qual F.params F.body F.scope F.cl .none kV doc pm an (.ref F.c) ct ∧ K.lookup f = some ⟨oc, od, .func fd, osl⟩
  cd : PySem.W.codeIn K (.ref F.c) F.qual = true
  cl : ∃ cc oc od osl, F.cl = [(("__class__" : Str), cc)] ∧ K.lookup cc = some ⟨oc, od, .cell (some (.ref C)), osl⟩
  par : ∃ ar ps', (F.params.posonlyargs ++ F.params.args).head? = some ar ∧ ps = ar.arg :: ps' ∧ F.scope.names.lookup ar.arg = some .local
  code : ∃ ccl cdd vs ccs file tf, K.lookup F.c = some ⟨ccl, cdd, .fields vs, ccs⟩ ∧ vs[2]? = some (.str file tf) ∧ ((P.main.file : Str) == file) = true
  cls : ∃ cdD, clsIn K C = some cdD
  sub : mroIn K C (.ref C) = some true
  ks : F.scope.names.lookup ("super" : Str) = some .globalImplicit
  kc : F.scope.names.lookup ("__class__" : Str) = some .free
  mg : mg "super" = none
  top : (P.main.scope.names.lookup ("super" : Str)).isSome = false
  opq : nsIn K cStatics "thirdparty.any" = some none
  sup : ks_superIn K C C "__init__" = some (some (.builtin "ValueError.__init__"))
  ve : subIn K (.ref C) (.type "ValueError") = some true
  ex : OexC K C
section
variable {CX : CXT} {P : Program} {w : World} {K : PySem.W.Frag} {mg : Str → Option Value} {base : Heap} {N ps : List Str} {F : NF} {C f : Addr} {fd : FuncData} {k : Nat} {sp : Sp} {t : Str} {rest : List Stmt} {p0 p1 p2 p3 p4 pc : Pos} {j : Nat} {pl : Sem Bool}
end
end Sim

/-! own exceptions: what the top's end says of them -/
namespace Sim
open PySem PySem.Spec PyProof.Rows L2 PySem.W PySem.Calls NdefX
def oexB (K : Frag) (C : Addr) : Bool := (match K.lookup C with
  | some ⟨.type "type", _, .cls cd, sl⟩ => (match cd.mro, sl.toList with
    | .ref C' :: bm, [_, _, _, _, some (.builtin n), _] => C' == C && n == "ValueError.__new__" && !cd.hasDel && PySem.HandSPX.refsVE bm && cd.hasDict
    | _, _ => false)
  | _ => false) && (decide (findIn K (.ref C) "__setattr__" = some (some (.builtin "object.__setattr__"))) && (decide (subIn K (.ref C) (.type "BaseException") = some true) && (decide (typeIn K (.ref C) = some (.type "type")) && keepIn K (.ref C))))
theorem oexB_ok {K : Frag} {C : Addr} (h : oexB K C = true) : OexC K C := by
  unfold oexB at h
  obtain ⟨q, h⟩ := He.ba h
  obtain ⟨h1, h⟩ := He.ba h
  obtain ⟨h2, h⟩ := He.ba h
  obtain ⟨h3, h4⟩ := He.ba h
  refine ⟨?_, of_decide_eq_true h1, of_decide_eq_true h2, of_decide_eq_true h3, h4⟩
  split at q
  · rename_i dd cd sl ho
    split at q
    · rename_i C' bm k0 k1 k2 k3 n k5 hm hs
      simp only [Bool.and_eq_true, beq_iff_eq, Bool.not_eq_true'] at q
      obtain ⟨⟨⟨⟨rfl, rfl⟩, hdel⟩, ht⟩, hdict⟩ := q
      obtain ⟨nm, bs, mro, ns, qn, hd, sn, sub, ab, col, del⟩ := cd
      dsimp only at hm hdel hdict
      subst hm hdel hdict
      have hsl : sl = #[k0, k1, k2, k3, some (.builtin "ValueError.__new__"), k5] := by
        rw [← Array.toArray_toList (xs := sl), hs]
      subst hsl
      exact ⟨nm, qn, ns, bs, bm, sn, sub, ab, col, dd, k0, k1, k2, k3, k5, ho, ht⟩
    · cases q
  · cases q
/-- an own __init__ of an exception class: what is looked at -/
abbrev FnY : Type := Option (Str × Arguments × FuncBody × Scope × Addr × List Str × Addr)
structure XcD where
  cls : Str
  qual : Str
  params : Arguments
  body : List Stmt
  scope : Scope
def xcAd (K : Frag) (x : Str) : Addr := He.ma K (He.ga K x) "__init__"
def fnY (K : Frag) (x : Str) : FnY := match K.lookup (xcAd K x) with
  | some ⟨_, _, .func fd, _⟩ => some (fd.qualname, fd.params, fd.body, fd.scope, fd.globals, fd.closure.map (·.1), fd.builtins)
  | _ => none
def XcD.val (d : XcD) : FnY := some (d.qual, d.params, .stmts d.body, d.scope, mainGlobals, ["__class__"], builtinsNs)
def XcD.fdB (K : Frag) (file : Str) (d : XcD) : Bool := match K.lookup (xcAd K d.cls) with
  | some ⟨_, _, .func fd, _⟩ => (match fd.closure with
    | [(_, cc)] => (match K.lookup cc with
      | some ⟨_, _, .cell (some (.ref D)), _⟩ => D == He.ga K d.cls
      | _ => false)
    | _ => false) && (match fd.code with
    | .ref cda => codeIn K (.ref cda) d.qual && (match K.lookup cda with
      | some ⟨_, _, .fields vs, _⟩ => (match (vs[2]? : Option Value) with
        | some (.str fl _) => fl == file
        | _ => false)
      | _ => false)
    | _ => false) && (decide (fd.name = ("__init__" : Str)) && (match fd.defaults with
    | .none => true
    | _ => false))
  | _ => false
def XcD.ok (K : Frag) (file : Str) (d : XcD) : Bool := d.fdB K file && (oexB K (He.ga K d.cls) && ((clsIn K (He.ga K d.cls)).isSome && (decide (mroIn K (He.ga K d.cls) (.ref (He.ga K d.cls)) = some true) &&
  (decide (nsIn K cStatics "thirdparty.any" = some none) && (decide (ks_superIn K (He.ga K d.cls) (He.ga K d.cls) "__init__" = some (some (.builtin "ValueError.__init__"))) && (decide (subIn K (.ref (He.ga K d.cls)) (.type "ValueError") = some true) &&
  (decide (findIn K (.ref (He.ga K d.cls)) "__init__" = some (some (.ref (xcAd K d.cls)))) && decide (typeIn K (.ref (xcAd K d.cls)) = some (.type "function")))))))))
/-- what is known of the class -/
structure XcK (P : Program) (K : Frag) (mg : Str → Option Value) (d : XcD) : Prop where
  ex : ∃ fd cc c, SupC P K mg (He.ga K d.cls) (xcAd K d.cls) fd ⟨"__init__", d.qual, d.params, d.body, d.scope, [("__class__", cc)], c⟩ ((d.params.posonlyargs ++ d.params.args).map (·.arg))
  oex : OexC K (He.ga K d.cls)
  ini : findIn K (.ref (He.ga K d.cls)) "__init__" = some (some (.ref (xcAd K d.cls)))
  ty : typeIn K (.ref (xcAd K d.cls)) = some (.type "function")
theorem XcD.known {P : Program} {K : Frag} {mg : Str → Option Value} {d : XcD} (e : fnY K d.cls = d.val) (c : d.ok K P.main.file = true) (hmg : mg "super" = none) (htop : (P.main.scope.names.lookup ("super" : Str)).isSome = false)
    (hks : d.scope.names.lookup ("super" : Str) = some .globalImplicit) (hkc : d.scope.names.lookup ("__class__" : Str) = some .free) {ar : Arg} {ars : List Arg} (hpa : d.params.posonlyargs ++ d.params.args = ar :: ars) (hka : d.scope.names.lookup ar.arg = some .local) : XcK P K mg d := by
  unfold XcD.ok at c
  obtain ⟨c0, c⟩ := He.ba c
  obtain ⟨c1, c⟩ := He.ba c
  obtain ⟨c2, c⟩ := He.ba c
  obtain ⟨c3, c⟩ := He.ba c
  obtain ⟨c4, c⟩ := He.ba c
  obtain ⟨c5, c⟩ := He.ba c
  obtain ⟨c6, c⟩ := He.ba c
  obtain ⟨c7, c8⟩ := He.ba c
  refine ⟨?_, oexB_ok c1, of_decide_eq_true c7, of_decide_eq_true c8⟩
  unfold XcD.fdB at c0
  unfold fnY at e
  cases q : K.lookup (xcAd K d.cls) with
  | none => rw [q] at c0; cases c0
  | some o =>
    obtain ⟨oc, od, dt, osl⟩ := o
    rw [q] at c0 e
    cases dt with
    | func fd =>
      obtain ⟨n1, n2, n3, n4, n5, n6, n7, n8, n9, n10, n11, n12, n13, n14, n15⟩ := fd
      have e2 : (some (n2, n3, n4, n5, n6, n7.map (·.1), n15) : FnY) = (some (d.qual, d.params, .stmts d.body, d.scope, mainGlobals, ["__class__"], builtinsNs) : FnY) := e
      simp only [Option.some.injEq, Prod.mk.injEq] at e2
      obtain ⟨h2, h3, h4, h5, h6, h7, h8⟩ := e2
      subst h2 h3 h4 h5 h6 h8
      dsimp only at c0
      obtain ⟨kab, kc⟩ := He.ba c0
      obtain ⟨kA, kB⟩ := He.ba kab
      obtain ⟨kc, kd⟩ := He.ba kc
      have kc := of_decide_eq_true kc
      subst kc
      clear kab c0
      have kd2 : n8 = Value.none := by
        cases n8 with
        | none => rfl
        | _ => cases kd
      subst kd2
      cases n7 with
      | nil => cases h7
      | cons p r =>
        cases r with
        | cons _ _ => simp at h7
        | nil =>
          obtain ⟨nm, cc⟩ := p
          have hn : nm = ("__class__" : Str) := by
            simp only [List.map_cons, List.map_nil, List.cons.injEq, and_true] at h7
            exact h7
          subst hn
          dsimp only at kA
          cases n13 with
          | ref cda =>
            dsimp only at kB
            obtain ⟨k4, k5⟩ := He.ba kB
            cases qc : K.lookup cc with
            | none => rw [qc] at kA; cases kA
            | some oc2 =>
              obtain ⟨a1, a2, a3, a4⟩ := oc2
              rw [qc] at kA
              cases a3 with
              | cell v =>
                cases v with
                | none => cases kA
                | some v =>
                  cases v with
                  | ref D =>
                    have hD : D = He.ga K d.cls := eq_of_beq kA
                    subst hD
                    cases qd : K.lookup cda with
                    | none => rw [qd] at k5; cases k5
                    | some od2 =>
                      obtain ⟨b1, b2, b3, b4⟩ := od2
                      rw [qd] at k5
                      cases b3 with
                      | fields vs =>
                        dsimp only at k5
                        cases qv : vs[2]? with
                        | none => rw [qv] at k5; cases k5
                        | some v2 =>
                          rw [qv] at k5
                          cases v2 with
                          | str fl tf =>
                            have hfl : fl = P.main.file := eq_of_beq k5
                            subst hfl
                            obtain ⟨cdD, hcd⟩ := Option.isSome_iff_exists.mp c2
                            exact ⟨_, cc, cda, ⟨oc, od, osl, n9, n10, n11, n12, n14, rfl, q⟩, k4, ⟨cc, a1, a2, a4, rfl, qc⟩, ⟨ar, ars.map (·.arg), by rw [hpa]; rfl, by rw [hpa]; rfl, hka⟩, ⟨b1, b2, vs, b4, P.main.file, tf, qd, qv, by simp⟩, ⟨cdD, hcd⟩,
                              of_decide_eq_true c3, hks, hkc, hmg, htop, of_decide_eq_true c4, of_decide_eq_true c5, of_decide_eq_true c6, oexB_ok c1⟩
                          | _ => cases k5
                      | _ => cases k5
                  | _ => cases kA
              | _ => cases kA
          | _ => cases kB
    | _ => cases c0
end Sim

/-! own exceptions raised: their mirrors and promises -/
namespace Sim
open PySem PySem.Spec PyProof.Rows L2 Evl NdefX
/-- an exception's field: data -/
inductive Xv where
  | int (i : Int)
  | str (s : Str)
  | txs (l : List Str)
  | bl (b : Bool)
  | recd (n : Str) (as : List (Str × Int)) (r : Int)
deriving DecidableEq
/-- a record that an exception holds -/
def rRc (K : PySem.W.Frag) : Rep (Str × List (Str × Int) × Int) := ⟨fun H v x => ∃ a dx vs, v = .ref a ∧ H a = some (SlX.SlO a (He.ga K "Record") dx vs) ∧ H dx = some (.xd []) ∧
  (∃ u, vs[1]? = some (some u) ∧ rS.r H u x.1) ∧ (∃ u, vs[0]? = some (some u) ∧ (rT (rP rS rI)).r H u x.2.1) ∧ ∃ u, vs[2]? = some (some u) ∧ rI.r H u x.2.2,
  fun e ⟨a, dx, vs, h1, h2, h3, ⟨u, k1, k2⟩, ⟨u', k3, k4⟩, u'', k5, k6⟩ => ⟨a, dx, vs, h1, e a _ h2, e dx _ h3, ⟨u, k1, rS.mono e k2⟩, ⟨u', k3, (rT (rP rS rI)).mono e k4⟩, u'', k5, rI.mono e k6⟩⟩
def rX (K : PySem.W.Frag) : Rep Xv := ⟨fun H v x => match x with
  | .int i => v = .int i
  | .str s => v = .str s
  | .txs l => (rT rS).r H v l
  | .bl b => v = .bl b
  | .recd n as r => (rRc K).r H v (n, as, r), fun {_ _ v x} e h => by
    cases x with
    | int _ => exact h
    | str _ => exact h
    | txs _ => exact (rT rS).mono e h
    | bl _ => exact h
    | recd _ _ _ => exact (rRc K).mono e h⟩
structure Xn where
  cls : Str
  fs : List (Str × Xv)
/-- its dict at d -/
def Xat (K : PySem.W.Frag) (G : Hp) (e : Xn) (d : Addr) : Prop := ∃ fs, G d = some (.xd fs) ∧ ∀ f x, e.fs.lookup f = some x → ∃ v, fs.lookup f = some v ∧ (rX K).r G v x
section
variable {K : PySem.W.Frag} {σ : L2.St} {G H G0 H0 : Hp} {ls : List Addr} {cs : Cs} {ta : TA} {ι : Type} {A : AR ι}
end
end Sim

/-! the __init__ of an own exception, walked -/
namespace Sim
open PySem PySem.Spec PyProof.Rows L2 Evl NdefX
section
variable {K : PySem.W.Frag} {σ : L2.St} {H : Hp} {a C dx : Addr} {D : Ends}
end
section
variable {CX : CXT} {P : Program} {w : World} {K : PySem.W.Frag} {mg : Str → Option Value} {base : Heap} {N ps : List Str} {F : NF} {C f : Addr} {fd : FuncData} {k : Nat} {t : Str} {rest : List Stmt} {p0 p1 p2 p3 p4 pc : Pos} {j : Nat} {pl : Sem Bool} {names : List Str} {fi : List (Str × Nat)}
end
end Sim

/-! calls that may raise, at the caller's slots; try -/
namespace L2
open PySem PySem.Spec PyProof.Rows
section
variable {X : Cx} {CX : CXT} {k : Nat} {f C : Addr} {fd : FuncData} {ps : List Str} {sp : Sp} {E : St → XK} {x m : Str} {p pos apos : Pos} {e o : Expr} {es : List Expr} {ta : TE} {t : TA}
end
/-- several clauses, each with a name -/
def wManyA (K : PySem.W.Frag) (Wout : WX) (D : Ends) : List (Value × Option Nat × (Addr → Value → Option Addr → TS)) → WX
  | [] => Wout
  | (c, some i, ts) :: r => fun cls d σ H => ∃ b, PySem.W.exmOne K cls c = some b ∧ (b = true → ∀ a, H a = none → ts a cls d { nx := fun σ' H' => D.nx (σ'.set i none) H', rt := D.rt, bk := fun σ' H' => D.bk (σ'.set i none) H', ct := fun σ' H' => D.ct (σ'.set i none) H' } (σ.set i (some (.ref a))) H) ∧
      (b = false → wManyA K Wout D r cls d σ H)
  | (c, none, ts) :: r => fun cls d σ H => ∃ b, PySem.W.exmOne K cls c = some b ∧ (b = true → ∀ a, H a = none → ts a cls d D σ H) ∧ (b = false → wManyA K Wout D r cls d σ H)
end L2
namespace Sim
open PySem PySem.Spec PyProof.Rows L2 Evl
section
variable {K : PySem.W.Frag} {σ : L2.St} {G H W G0 H0 : Hp} {ls : List Addr} {cs : Cs} {ta : TA} {to te : TE} {ι α β γ : Type} {A : AR ι} {R : Rep α} {S : Rep β} {T : Rep γ} {t u : TS} {D : Ends}
theorem Xat.mono {G G2 : Hp} {e : Xn} {d : Addr} (x : Ex G G2) (h : Xat K G e d) : Xat K G2 e d := by
  obtain ⟨fs, h1, h2⟩ := h
  exact ⟨fs, x d _ h1, fun f y hy => by obtain ⟨v, h3, h4⟩ := h2 f y hy; exact ⟨v, h3, (rX K).mono x h4⟩⟩
end
end Sim

/-! try with several clauses, each with or without a name -/
namespace L2
open PySem PySem.Spec PyProof.Rows
/-- one clause: its class, the slot of its name, its suite -/
abbrev Cla : Type := Value × Option Nat × (Addr → Value → Option Addr → TS)
def SuOk (X : Cx) (su : List Stmt) (ts : Addr → Value → Option Addr → TS) : Prop := ∀ (a : Addr) (oe : Obj) (cls : Value) (d : Option Addr) (pn : List (Addr × Obj)), Zc cls d oe → (∃ vs, oe.data = .fields vs) → PSs (X.suite a ((a, oe) :: pn)) su (ts a cls d)
inductive HdsA (X : Cx) : List ExceptHandler → List Cla → Prop
  | nil : HdsA X [] []
  | plain {x : Str} {c : Value} {ts} {b₀ : Stmt} {su : List Stmt} {np p : Pos} {hds l} (hc : Names X x c) (hsu : SuOk X (b₀ :: su) ts) (r : HdsA X hds l) : HdsA X (.ExceptHandler (some (.Name x np)) none (b₀ :: su) p :: hds) ((c, none, ts) :: l)
  | as_ {x n : Str} {i : Nat} {c : Value} {ts} {b₀ : Stmt} {su : List Stmt} {np p : Pos} {hds l} (hc : Names X x c) (hi : X.N[i]? = some n) (hln : X.env.kindOf n = some .local) (hsu : SuOk X (b₀ :: su) ts) (r : HdsA X hds l) :
      HdsA X (.ExceptHandler (some (.Name x np)) (some n) (b₀ :: su) p :: hds) ((c, some i, ts) :: l)
/-- the exception at a is in the air over the state s, sI is the state without it -/
structure Aloft (X : Cx) (pins : List (Addr × Obj)) (σ : L2.St) (H : Hp) (cls : Value) (d : Option Addr) (a : Addr) (B : Heap) (sI s : Shared) : Prop where
  inv : Inv X pins σ H sI
  nb : ∀ b o, sI.heap.get? b = some o → b ∉ frs X.stack → B.get? b = some o
  up : sI.heap.UpToSlots s.heap
  fl : HandSPX.FlyingZ B X.stack a (Zc cls d) s.heap
  na : H a = none
  os : s.os = sI.os
  ag : AllBare s.gens
section
variable {X : Cx} {pins : List (Addr × Obj)} {σ : L2.St} {H : Hp} {cls : Value} {d : Option Addr} {a : Addr} {B : Heap} {sI s : Shared}
/-- seen from within a suite -/
theorem Aloft.within (A : Aloft X pins σ H cls d a B sI s) (hs : X.stack = X.env :: X.outer) (hf : X.env.frame = some X.env.locals) :
    ∃ oe, s.heap.get? a = some oe ∧ Zc cls d oe ∧ (∃ vs, oe.data = .fields vs) ∧ Inv X pins σ H s ∧ Inv (X.suite a ((a, oe) :: (X.pn ++ pins))) [] σ H s := by
  obtain ⟨oe, vs, h1, h2, h3⟩ := A.fl.there
  have J : Inv X pins σ H s := A.inv.landed A.nb A.fl.1 A.up A.os A.ag
  have out : a ∉ frs X.stack := fun hm => by
    obtain ⟨_, o, ho, hn⟩ := A.fl.2.2.1.mem hm
    rw [h1] at ho
    cases ho
    exact hn _ h3
  rw [hs] at out
  refine ⟨oe, h1, h2, ⟨vs, h3⟩, J, J.suite h1 h3 A.na (fun z => out ?_) (fun hm => out ?_)⟩
  · exact List.mem_filterMap.mpr ⟨X.env, List.mem_cons_self, by rw [hf, z]⟩
  · obtain ⟨e, he, q⟩ := List.mem_filterMap.mp hm
    exact List.mem_filterMap.mpr ⟨e, List.mem_cons_of_mem _ he, q⟩
/-- no clause is left -/
theorem Aloft.pass {Wout : WX} {Q : Flow → Shared → Prop} (A : Aloft X pins σ H cls d a B sI s) (hs : X.stack = X.env :: X.outer) (hf : X.env.frame = some X.env.locals) (tk : Takes X Wout) (w : Wout cls d σ H) :
    wpAny (model X.prog X.w) X.A (handleBy (.ref a) X.env []) Q X.xe s := by
  have fl := A.fl
  obtain ⟨_, _, _, oe, vs, T, oT, ts, h1, h2, h3, h4, _⟩ := id fl
  refine wpAny_handleBy_nil ?_
  unfold PySem.passOn
  refine wpAny_bind (wpAny_field h1 h3 h4 ?_)
  rw [if_neg (show ¬ ((Value.ref T == Value.none) = true) from by simp)]
  have last : wpAny (model X.prog X.w) X.A (setFlight (.ref a) X.env.frame) (fun _ s4 => wpAny (model X.prog X.w) X.A (throw (.ref a) : Sem Flow) Q X.xe s4) X.xe s := by
    rw [hf]
    rw [hs] at fl
    exact HandSPX.setFlight_upZ fl fun h4 hh up => wpAny_throw (tk _ _ ⟨a, B, sI, pins, σ, H, cls, d, rfl, A.inv, A.nb, A.up.trans up, .inr (.inr (by rw [hs]; exact hh)), A.na, A.os, A.ag, w⟩)
  first
    | exact wpAny_bind (wpAny_pure (wpAny_bind last))
    | exact wpAny_bind last
/-- the clauses, one after the other -/
theorem Aloft.go {Wout : WX} {D : Ends} (A : Aloft X pins σ H cls d a B sI s) (ok : X.Ok) (hN : X.N.Nodup) (hs : X.stack = X.env :: X.outer) (hf : X.env.frame = some X.env.locals) (tk : Takes X Wout) {hds : List ExceptHandler} {l : List Cla}
    (hk : HdsA X hds l) : wManyA X.K Wout D l cls d σ H → wpAny (model X.prog X.w) X.A (handleBy (.ref a) X.env hds) (SP X pins D) X.xe s := by
  obtain ⟨oe, h1, h2, _, J, S⟩ := A.within hs hf
  have ask : ∀ {x : Str} {c : Value} {np : Pos} {Q : Value → Shared → Prop} {E : Value → Shared → Prop}, Names X x c → Q c s → wpAny (model X.prog X.w) (X.A.mark (some (.ref a))) (eval (.Name x np) X.env) Q E s := fun {x c np Q E} hc q => by
    obtain ⟨hg, hd, hm | ⟨hm, hv, hn⟩⟩ := hc
    · exact ld_glob (X := X.suite a ((a, oe) :: (X.pn ++ pins))) S hg hm q hd
    · exact ld_blt (X := X.suite a ((a, oe) :: (X.pn ++ pins))) S hg hm hv q hn hd
  have kind : PySem.W.Looks (model X.prog X.w) s.heap (typeOf (.ref a)) cls := fun A Q E s k q => wpAny_typeOf_ref (k _ _ h1) (by rw [h2.1]; exact q)
  induction hk with
  | nil => exact fun w => A.pass hs hf tk w
  | @plain x c ts b₀ su np p hds l hc hsu r ih =>
    rintro ⟨b, hb, yes, no⟩
    refine wpAny_handleBy_cons (codeAny_handlers_test ?_) (by intro q; cases q)
    refine ask hc ((PySem.W.exm_one (M := model X.prog X.w) J.kIn kind hb).here ?_)
    cases b with
    | false => exact ih (no rfl)
    | true =>
      refine codeAny_handlers_suite ?_
      have fl := A.fl
      rw [hs] at fl
      refine HandSPX.lands_againZ fl fun h4 fl4 up4 => ?_
      have A4 : Aloft X pins σ H cls d a B sI { s with heap := h4 } := ⟨A.inv, A.nb, A.up.trans up4, by rw [hs]; exact fl4, A.na, A.os, A.ag⟩
      obtain ⟨oe4, _, z4, f4, _, S4⟩ := A4.within hs hf
      refine wpAny_mono ((hsu a oe4 cls d _ z4 f4).run [] _ _ H _ S4 (yes rfl a A.na)) (fun f s6 hsp => ?_) (fun _ _ z => False.elim z)
      cases f with
      | ret u => obtain ⟨v, σ6, H6, S6, r6, q⟩ := hsp; exact ⟨v, σ6, H6, S6.unsuite ok, r6, q⟩
      | next => obtain ⟨σ6, H6, S6, q⟩ := hsp; exact ⟨σ6, H6, S6.unsuite ok, q⟩
      | brk => obtain ⟨σ6, H6, S6, q⟩ := hsp; exact ⟨σ6, H6, S6.unsuite ok, q⟩
      | cont => obtain ⟨σ6, H6, S6, q⟩ := hsp; exact ⟨σ6, H6, S6.unsuite ok, q⟩
  | @as_ x n i c ts b₀ su np p hds l hc hi hln hsu r ih =>
    rintro ⟨b, hb, yes, no⟩
    refine wpAny_handleBy_cons (codeAny_handlers_test ?_) (by intro q; cases q)
    refine ask hc ((PySem.W.exm_one (M := model X.prog X.w) J.kIn kind hb).here ?_)
    cases b with
    | false => exact ih (no rfl)
    | true =>
      refine codeAny_handlers_suite_as ?_
      have fl := A.fl
      rw [hs] at fl
      refine HandSPX.lands_againZ fl fun h4 fl4 up4 => ?_
      have A4 : Aloft X pins σ H cls d a B sI { s with heap := h4 } := ⟨A.inv, A.nb, A.up.trans up4, by rw [hs]; exact fl4, A.na, A.os, A.ag⟩
      obtain ⟨oe4, _, z4, f4, _, S4⟩ := A4.within hs hf
      refine store_ok (X := X.suite a ((a, oe4) :: (X.pn ++ pins))) (v := .ref a) S4 hN hi (.inl hln) rfl (fun s5 S5 => ?_) (.inr hln)
      refine wpAny_mono ((hsu a oe4 cls d _ z4 f4).run [] s5 _ H _ S5 (yes rfl a A.na)) (fun f s6 hsp => ?_) (fun _ _ z => False.elim z)
      have off : ∀ {σ6 : L2.St} {H6 : Hp} {Q : Shared → Prop}, Inv (X.suite a ((a, oe4) :: (X.pn ++ pins))) [] σ6 H6 s6 → (∀ s7, Inv X pins (σ6.set i none) H6 s7 → Q s7) →
          wpAny (model X.prog X.w) X.A (do bindName X.env n .none; unbindBehindTheSuite X.env n p) (fun _ s7 => Q s7) X.xe s6 := fun S6 k => gone_ok (S6.unsuite ok) hN hi hln k
      cases f with
      | ret u => obtain ⟨v, σ6, H6, S6, r6, q⟩ := hsp; exact off S6 fun s7 J7 => ⟨v, _, H6, J7, r6, q⟩
      | next => obtain ⟨σ6, H6, S6, q⟩ := hsp; exact off S6 fun s7 J7 => ⟨_, H6, J7, q⟩
      | brk => obtain ⟨σ6, H6, S6, q⟩ := hsp; exact off S6 fun s7 J7 => ⟨_, H6, J7, q⟩
      | cont => obtain ⟨σ6, H6, S6, q⟩ := hsp; exact off S6 fun s7 J7 => ⟨_, H6, J7, q⟩
end
section
variable {X : Cx} {body : List Stmt} {h₀ : ExceptHandler} {hds : List ExceptHandler} {l : List Cla} {pos : Pos} {tb : WX → TS} {Wout : WX}
end
end L2

/-! the hook with own exceptions -/
namespace Sim
open PySem PySem.Spec PyProof.Rows L2 Evl
/-- the property f of the class C, its place, its getter -/
def prP (K : PySem.W.Frag) (C f : Str) : Addr := He.ma K (He.ga K C) f
def wrG (K : PySem.W.Frag) (k : String) (C f : Str) : Addr := match PySem.W.recIn K (prP K C f) k with
  | some (.ref g :: _) => g
  | _ => 0
def statB (C f : Str) (K : PySem.W.Frag) : Bool := decide (PySem.W.specialIn K (.ref (He.ga K C)) "__getattribute__" = some (some (.builtin "type.__getattribute__"))) && (decide (PySem.W.typeIn K (.ref (He.ga K C)) = some (.type "type")) &&
  (PySem.W.readsIn K (He.ga K C) (.type "type") && ((match PySem.W.findCls K (.ref (He.ga K C)) (.type "type") f with
    | some (.get (.builtin n) (.ref p) .none (.ref D)) => n == "staticmethod.__get__" && (p == prP K C f && D == He.ga K C)
    | _ => false) && (match PySem.W.recIn K (prP K C f) "staticmethod" with
    | some (.ref g :: _) => PySem.W.handedIn (.ref g)
    | _ => false))))
def propB (C f : Str) (K : PySem.W.Frag) : Bool := decide (PySem.W.findIn K (.ref (He.ga K C)) f = some (some (.ref (prP K C f)))) && (decide (PySem.W.specialIn K (.ref (prP K C f)) "__get__" = some (some (.builtin "property.__get__"))) &&
  (decide (PySem.W.takesIn K (.ref (prP K C f)) = some true) && (match PySem.W.recIn K (prP K C f) "property" with
    | some (.ref _ :: _) => true
    | _ => false)))
/-- a property's getter: a def -/
structure GeD where
  kind : String
  cls : Str
  prop : Str
  qual : Str
  params : Arguments
  body : List Stmt
  scope : Scope
def fnG (K : PySem.W.Frag) (k : String) (C f : Str) : He.FnW := match K.lookup (wrG K k C f) with
  | some ⟨_, _, .func fd, _⟩ => some (fd.name, fd.qualname, fd.params, fd.body, fd.scope, fd.globals, fd.closure, fd.builtins)
  | _ => none
def GeD.val (d : GeD) : He.FnW := some (d.prop, d.qual, d.params, .stmts d.body, d.scope, mainGlobals, [], builtinsNs)
def GeD.ok (K : PySem.W.Frag) (d : GeD) : Bool := (bif d.kind == "property" then propB d.cls d.prop K else statB d.cls d.prop K) && (PySem.W.keepIn K (.ref (wrG K d.kind d.cls d.prop)) && (match K.lookup (wrG K d.kind d.cls d.prop) with
  | some ⟨_, _, .func fd, _⟩ => PySem.W.codeIn K fd.code d.qual && (He.dflB K fd.defaults [] && He.kwdB K fd.kwdefaults [])
  | _ => false))
abbrev AlX : Type := He.AlD × Bool × List FnY × List He.FnW
def obsX (fa : List He.Fa) (fn : List He.DefD) (ex : List (PySem.W.Frag → Bool)) (xs : List XcD) (gs : List GeD) (file : Str) (K : PySem.W.Frag) : AlX := (He.obsD fa fn K, (ex.all fun e => e K) && ((xs.all fun d => d.ok K file) && gs.all fun d => d.ok K), (xs.map fun d => fnY K d.cls), gs.map fun d => fnG K d.kind d.cls d.prop)
def obsXG (n : Nat) (fa : List He.Fa) (fn : List He.DefD) (ex : List (PySem.W.Frag → Bool)) (xs : List XcD) (gs : List GeD) (file : Str) (g : Addr → Option Obj) : AlX := obsX fa fn ex xs gs file (He.frG g (cStatics :: He.asD g n))
structure SaysX (fa : List He.Fa) (fn : List He.DefD) (ex : List (PySem.W.Frag → Bool)) (xs : List XcD) (gs : List GeD) (file : Str) (K : PySem.W.Frag) : Prop where
  d : He.SaysD fa fn K
  x : ((ex.all fun e => e K) && ((xs.all fun d => d.ok K file) && gs.all fun d => d.ok K)) = true
  y : (xs.map fun d => fnY K d.cls) = xs.map XcD.val
  g : (gs.map fun d => fnG K d.kind d.cls d.prop) = gs.map GeD.val
def hookX (n : Nat) (fa : List He.Fa) (fn : List He.DefD) (ex : List (PySem.W.Frag → Bool)) (xs : List XcD) (gs : List GeD) (file : Str) : PySem.W.Hook where
  α := AlX
  obs := fun s => obsXG n fa fn ex xs gs file s.heap.get?
  val := fun _ => (He.valD fn, true, xs.map XcD.val, gs.map GeD.val)
  says := fun _ h => ∃ K : PySem.W.Frag, K.In h ∧ SaysX fa fn ex xs gs file K
  of := fun _ _ e => ⟨_, He.frG_in, congrArg (fun z : AlX => z.1) e, congrArg (fun z : AlX => z.2.1) e, congrArg (fun z : AlX => z.2.2.1) e, congrArg (fun z : AlX => z.2.2.2) e⟩
  keeps := fun _ _ _ ⟨K, hK, c⟩ k => ⟨K, PySem.W.Frag.In.keeps hK k, c⟩
structure TxX (fa : List He.Fa) (fn : List He.DefD) (es : List (PySem.W.Frag → Bool)) (xs : List XcD) (gs : List GeD) (file : Str) (K : PySem.W.Frag) (mg : Str → Option Value) : Prop extends TxE fa fn es K mg where
  xo : (xs.all fun d => d.ok K file) = true
  xv : (xs.map fun d => fnY K d.cls) = xs.map XcD.val
  go : (gs.all fun d => d.ok K) = true
  gv : (gs.map fun d => fnG K d.kind d.cls d.prop) = gs.map GeD.val
section
variable {fa : List He.Fa} {fn : List He.DefD} {es : List (PySem.W.Frag → Bool)} {xs : List XcD} {gs : List GeD} {file : Str} {K : PySem.W.Frag} {mg : Str → Option Value}
end
/-- further Bools: fields of an exception, isinstance of it, a property -/
def noB (C f : Str) (K : PySem.W.Frag) : Bool := decide (PySem.W.findIn K (.ref (He.ga K C)) f = some none)
def exmB (C D : Str) (b : Bool) (K : PySem.W.Frag) : Bool := decide (PySem.W.exmOne K (.ref (He.ga K C)) (.ref (He.ga K D)) = some b)
end Sim

/-! isinstance of a caught exception that has fields; properties -/
namespace PySem.W
open PySem PySem.Calls PyProof.Rows PySem.Spec
section
variable {prog : Program} {w : World} {A : Around} {E : Value → Shared → Prop} {s : Shared} {K : Frag} {x D : Addr} {ox : Obj} {od : Obj}
end
end PySem.W
namespace L2
open PySem PySem.Spec PyProof.Rows
end L2
namespace Sim
open PySem PySem.Spec PyProof.Rows L2 Evl
section
variable {K : PySem.W.Frag} {σ : L2.St} {G H W : Hp} {to : TE} {ta : TA} {α γ : Type} {T : Rep γ}
end
end Sim

namespace Sim
open PySem PySem.Spec PyProof.Rows L2 Evl
end Sim

/-! a class made whose __init__ may raise; isinstance of whatever was caught; tables of exception classes -/
namespace L2
open PySem PySem.Spec PyProof.Rows
section
variable {X : Cx} {CX : CXT} {k : Nat} {f C : Addr} {fd : FuncData} {ps : List Str} {sp : Sp} {E : St → XK} {x m : Str} {p pos apos : Pos} {e o : Expr} {es : List Expr} {ta : TE} {t : TA}
end
end L2
namespace Sim
open PySem PySem.Spec PyProof.Rows L2 Evl
/-! tables: what the top's end says of the exception classes cs -/
def excCB (K : PySem.W.Frag) (D : Addr) : Bool := decide (PySem.W.findIn K (.ref D) "__getattribute__" = some (some (.builtin "BaseException.__getattribute__"))) && (decide (PySem.W.findIn K (.ref D) "__getattr__" = some none) &&
  (decide (PySem.W.subIn K (.ref D) (.type "BaseException") = some true) && (PySem.W.hasDictIn K D && (decide (PySem.W.findIn K (.ref D) "__class__" = some (some (.builtin "object.__class__"))) &&
  (decide (PySem.W.specialIn K (.builtin "object.__class__") "__get__" = some (some (.builtin "getset_descriptor.__get__"))) && (decide (PySem.W.takesIn K (.builtin "object.__class__") = some true) && decide (PySem.W.mroIn K D (.type "object") = some true)))))))
/-- each of cs: an exception class that is told by its fields -/
def xsB (cs : List Str) (K : PySem.W.Frag) : Bool := cs.all fun C => excCB K (He.ga K C) && xfB K (He.ga K C)
/-- no attribute of these names in the classes -/
def xnB (cs : List Str) (fs : List Str) (K : PySem.W.Frag) : Bool := cs.all fun C => fs.all fun f => noB C f K
/-- for each of cs: the clause 'except D' -/
def xaB (cs : List Str) (D : Str) (b : Bool) (K : PySem.W.Frag) : Bool := cs.all fun C => exmB C D b K
def kiB (C : Str) (v : Value) (b : Bool) (K : PySem.W.Frag) : Bool := decide (PySem.W.kitOne K (.ref (He.ga K C)) v = some b)
/-- for each of cs: isinstance(e, D) -/
def xkB (cs : List Str) (D : Str) (ds : List Str) (K : PySem.W.Frag) : Bool := cs.all fun C => kiB C (.ref (He.ga K D)) (ds.contains C) K
def xkTB (cs : List Str) (D : String) (b : Bool) (K : PySem.W.Frag) : Bool := cs.all fun C => kiB C (.type D) b K
section
variable {K : PySem.W.Frag} {cs fs : List Str} {C D f : Str} {b : Bool}
end
section
variable {K : PySem.W.Frag} {σ : L2.St} {G H W G0 H0 G2 H2 : Hp} {ls : List Addr} {cs : Cs} {ta tb : TA} {to te tu : TE} {ι α β γ : Type} {A : AR ι} {R : Rep α} {S : Rep β} {T : Rep γ} {D : Ends} {l C : Addr} {ns : List Str} {fl : α → List Pd}
end
end Sim

/-! properties; == of further data; list + list; index; all, any -/
namespace Sim
open PySem PySem.Spec PyProof.Rows L2 Evl
section
variable {K : PySem.W.Frag} {σ : L2.St} {G H W G' W' : Hp} {ta : TA} {te tu : TE} {ι α β γ : Type} {A : AR ι} {R : Rep α} {S : Rep β} {T : Rep γ}
end
end Sim

/-! operators of own classes: ==, len, in, binary and unary ones -/
namespace L2
open PySem PySem.Spec PyProof.Rows
section
variable {X : Cx} {CX : CXT} {k : Nat} {f C : Addr} {fd : FuncData} {ps : List Str} {sp : Sp} {pins : List (Addr × Obj)} {σ : St} {H : Hp} {s : Shared} {ta tb : TE}
end
end L2

/-! operators of own classes: what they read as -/
namespace Sim
open PySem PySem.Spec PyProof.Rows L2 Evl
section
variable {K : PySem.W.Frag} {σ : L2.St} {G H W : Hp} {ta tb te : TE} {tA : TA} {α β γ ι : Type} {R : Rep α} {S : Rep β} {T : Rep γ} {A : AR ι} {C : Addr} {ns : List Str} {fl : α → List Pd}
end
end Sim

/-! what is walked, told in general; comprehensions with two clauses -/
namespace Sim
open PySem L2 Evl
section
variable {K : PySem.W.Frag} {σ : L2.St} {G H W G' W' : Hp} {te tl : TE} {tt tt1 : TT} {α β γ δ : Type} {R : Rep α} {S : Rep β} {T : Rep γ} {wi wi1 : TI} {g g1 : TG}
/-! ### [e2 for x in xs if f1 for y in g2 x if p2] -/
structure Acc (G0 H0 : Hp) (T : Rep γ) (D : Addr) (G H : Hp) (acc : List V) (ys : List γ) : Prop where
  n : H0 D = none
  u : Up G0 H0 G H
  gd : G D = none
  hd : H D = some (.lst acc)
  pr : Paired (T.r G) acc ys
section
variable {G0 H0 : Hp} {D : Addr} {acc : List V} {ys zs : List γ}
theorem Acc.sc {H2 : Hp} (A : Acc G0 H0 T D G H acc ys) (e : Ex H H2) : Acc G0 H0 T D G H2 acc ys := ⟨A.n, A.u.trans (Up.same A.u.gh e), A.gd, e _ _ A.hd, A.pr⟩
theorem Acc.up {G2 H2 : Hp} (A : Acc G0 H0 T D G H acc ys) (u : Up G H G2 H2) : Acc G0 H0 T D G2 H2 acc ys :=
  ⟨A.n, A.u.trans u, u.nw D (by rw [A.hd]; simp) A.gd, u.hh _ _ A.hd, Paired.mapP A.pr fun _ _ => T.mono u.gg⟩
end
/-! ### is True, is False; and where the first operand is known -/
end
section
variable {K : PySem.W.Frag} {σ : L2.St} {G H W : Hp} {te ta : TE} {α : Type}
end
end Sim

/-! static methods, class constants read off the class -/
namespace L2
open PySem PySem.Spec PyProof.Rows
section
variable {X : Cx} {CX : CXT} {k : Nat} {f C p : Addr} {fd : FuncData} {ps : List Str} {sp : Sp} {E : St → XK} {x m : Str} {pos apos : Pos} {e o : Expr} {es : List Expr} {ta : TE} {t : TA}
end
end L2
namespace Sim
open PySem PySem.Spec PyProof.Rows L2 Evl
section
variable {K : PySem.W.Frag} {σ : L2.St} {G H W : Hp} {ta : TA} {ι γ : Type} {A : AR ι} {T : Rep γ} {C : Addr}
end
end Sim

/-! data of mixed kinds; a pair unpacked; one-clause comprehensions over anything -/
namespace Sim
open PySem L2 Evl
mutual
theorem Dp.up {K : PySem.W.Frag} {H H' : Hp} (e : Ex H H') : ∀ {v : V} {d : PyData}, Dp K H v d → Dp K H' v d
  | _, _, .non => .non
  | _, _, .bl b => .bl b
  | _, _, .int i => .int i
  | _, _, .str x => .str x
  | _, _, .lst h t => .lst (ex_l e h) (DpAll.up e t)
  | _, _, .tup h t => .tup (ex_t e h) (DpAll.up e t)
theorem DpAll.up {K : PySem.W.Frag} {H H' : Hp} (e : Ex H H') : ∀ {vs : List V} {ds : List PyData}, DpAll K H vs ds → DpAll K H' vs ds
  | _, _, .nil => .nil
  | _, _, .cons h t => .cons (Dp.up e h) (DpAll.up e t)
end
section
variable {K : PySem.W.Frag} {σ : L2.St} {G H W G0 H0 : Hp} {ls : List Addr} {cs : Cs} {te : TE} {α β γ : Type} {R : Rep α} {S : Rep β} {T : Rep γ} {D : Ends} {tz : TS}
end
section
variable {K : PySem.W.Frag} {σ : L2.St} {G H W : Hp} {te : TE} {tt : TT} {α γ : Type} {R : Rep α} {T : Rep γ} {wi : TI} {g : TG}
end
end Sim

/-! dicts -/
namespace Sim
open PySem L2 Evl
/-- a dict: its entries in order; kf: how a key stands -/
def rM {κ α : Type} (kf : κ → Key) (R : Rep α) : Rep (List (κ × α)) := ⟨fun H v kvs => ∃ a ws, v = .ref a ∧ H a = some (.dK ws) ∧ Paired (fun (p : Key × V) (q : κ × α) => p.1 = kf q.1 ∧ R.r H p.2 q.2) ws kvs,
  fun e ⟨a, ws, h1, h2, h3⟩ => ⟨a, ws, h1, e a _ h2, Paired.mapP h3 fun _ _ h => ⟨h.1, R.mono e h.2⟩⟩⟩
section
variable {K : PySem.W.Frag} {σ : L2.St} {G H W : Hp} {κ α β γ : Type} {kf : κ → Key} {R : Rep α}
end
end Sim

set_option maxHeartbeats 2000000
/-! own iterables: __iter__ gives iter(a list of theirs) -/
namespace L2
open PySem PySem.Spec PyProof.Rows ItX
section
variable {X : Cx} {k j : Nat} {fi C : Addr} {fd : FuncData} {ps : List Str} {pins : List (Addr × Obj)} {σ : St} {H : Hp} {s : Shared} {te : TE} {f : Str}
/-! ### list(o) -/
variable {fl : Addr} {fdl : FuncData} {psl : List Str} {spl : Sp}
end
end L2

namespace Sim
open PySem L2 Evl
section
variable {K : PySem.W.Frag} {σ : L2.St} {G H W : Hp} {te : TE} {α β γ : Type} {R : Rep β} {C : Addr} {ns : List Str} {fl : α → List Pd}
end
end Sim
namespace Sim
open PySem L2
end Sim

set_option maxHeartbeats 2000000
/-! a class with slots -/
namespace L2
open PySem PySem.Spec PyProof.Rows SlX
section
variable {X : Cx} {CX : CXT} {k : Nat} {f C : Addr} {fd : FuncData} {ps : List Str} {sp : Sp} {pins : List (Addr × Obj)} {σ : St} {H : Hp} {s : Shared} {ta tb : TE}
end
end L2
namespace Sim
open PySem PySem.Spec PyProof.Rows L2 Evl SlX
abbrev Ps := List (Nat × Pd)
def PsAt (ps : Ps) (G : Hp) (vs : List (Option V)) : Prop := ∀ q ∈ ps, ∃ v, vs[q.1]? = some (some v) ∧ q.2.p G v
theorem PsAt.mono {ps : Ps} {G G' : Hp} {vs : List (Option V)} (e : Ex G G') (h : PsAt ps G vs) : PsAt ps G' vs := fun q hq => by
  obtain ⟨v, h1, h2⟩ := h q hq
  exact ⟨v, h1, q.2.mono e h2⟩
/-- an instance with slots, as data -/
def rSl {α : Type} (C : Addr) (fl : α → Ps) : Rep α := ⟨fun H v x => ∃ a dx vs, v = .ref a ∧ H a = some (SlO a C dx vs) ∧ H dx = some (.xd []) ∧ PsAt (fl x) H vs,
  fun e ⟨a, dx, vs, h1, h2, h3, h4⟩ => ⟨a, dx, vs, h1, e a _ h2, e dx _ h3, h4.mono e⟩⟩
section
variable {K : PySem.W.Frag} {σ : L2.St} {G0 H0 G H G2 H2 W : Hp} {ls : List Addr} {cs : Cs} {l ld C : Addr} {ta : TA} {te to : TE} {α β γ ι : Type} {R : Rep α} {S : Rep β} {T : Rep γ} {A : AR ι} {D : Ends} {tz : TS} {fl : α → Ps}
theorem PsAt.put {ps : Ps} {vs : List (Option V)} {n : Nat} {v : V} {q : Pd} (h : PsAt ps G vs) (hn : ∀ p ∈ ps, p.1 ≠ n) (r : q.p G v) : PsAt (ps ++ [(n, q)]) G (putS n v vs) := fun p hp => by
  rcases List.mem_append.mp hp with hp | hp
  · obtain ⟨w, h1, h2⟩ := h p hp
    exact ⟨w, (putS_ne (hn p hp)).mpr h1, h2⟩
  · rw [List.mem_singleton.mp hp]
    exact ⟨v, putS_get n v vs, r⟩
/-! own == -/
end
/-! facts of the text -/
end Sim

/-! cells of any kind; dicts; texts -/
namespace L2
open PySem PySem.Spec PyProof.Rows
section
variable {X : Cx}
end
end L2
namespace Sim
open PySem L2 Evl
/-! ### texts -/
section
variable {K : PySem.W.Frag} {σ : L2.St} {G0 H0 G H G2 H2 W : Hp} {ls : List Addr} {cs : Cs} {l : Addr} {cp' : CP} {ta : TA} {te td ti tx : TE} {α β γ ι κ : Type} {R : Rep α} {S : Rep β} {T : Rep γ} {A : AR ι} {D : Ends} {tz : TS}
/-! ### cells of any kind -/
/-- what stands in such a cell is data once nobody changes it -/
def Fz (cp : β → CP) (S : Rep β) : Prop := ∀ {G G' : Hp} {l : Addr} {o : HO} {x : β}, (cp x).p G o → Ex G G' → G' l = some o → S.r G' (.ref l) x
def EC (te : TE) (σ : L2.St) (G W : Hp) (cp : β → CP) (m : Option β) : Prop :=
  ∀ x, m = some x → ∀ H, Ex G H → Ex W H → ∀ Q : VK, (∀ p H2 G2, H p = none → Up G H G2 H2 → Wd G2 H2 [(p, cp x)] → Q (.ref p) H2) → te σ H Q
variable {cp : β → CP}
theorem frzC {G H G1 H1 : Hp} {p : Addr} {x : β} (F : Fz cp S) (hp : H p = none) (u : Up G H G1 H1) (w : Wd G1 H1 [(p, cp x)]) : ∃ G2, Up G H G2 H1 ∧ S.r G2 (.ref p) x := by
  obtain ⟨h1, o, h2, h3⟩ := w.head
  refine ⟨upd G1 p o, u.frz hp (Ex.new h1) (fun a u' e => ?_) (fun a ne h => by rw [upd_ne ne]; exact h), F h3 (Ex.new h1) upd_same⟩
  by_cases q : a = p
  · subst q; rw [upd_same] at e; cases e; exact h2
  · rw [upd_ne q] at e; exact w.ex a u' e
theorem EC.e {m : Option β} (F : Fz cp S) (h : EC te σ G W cp m) : E te σ G W S m := fun x hx H e e' Q q => h x hx H e e' Q fun p H2 G2 hp u w => by
  obtain ⟨G3, u3, r3⟩ := frzC F hp u w
  exact q _ H2 G3 u3 r3
/-! ### dicts -/
variable {κ : Type} [DecidableEq κ] {kf : κ → Key}
def Pm (kf : κ → Key) (R : Rep α) (G : Hp) : List (Key × V) → List (κ × α) → Prop := Paired (fun (p : Key × V) (q : κ × α) => p.1 = kf q.1 ∧ R.r G p.2 q.2)
def cM (kf : κ → Key) (R : Rep α) (kvs : List (κ × α)) : CP := ⟨fun G o => ∃ ws, o = .dK ws ∧ Pm kf R G ws kvs, fun e ⟨ws, h1, h2⟩ => ⟨ws, h1, Paired.mapP h2 fun _ _ h => ⟨h.1, R.mono e h.2⟩⟩⟩
end
end Sim

/-! displays and making of objects, opened -/
namespace Sim
open PySem L2 Evl
section
variable {K : PySem.W.Frag} {C : Addr} {σ : L2.St} {G0 H0 G H G2 H2 W : Hp} {ls : List Addr} {cs : Cs} {l : Addr} {ta : TA} {sp : Sp} {dvs : List V} {X : XK} {Q : VK} {α β ι : Type} {R : Rep α} {S : Rep β} {A : AR ι}
end
end Sim

/-! slices of lists, f-strings, join -/
namespace Sim
open PySem L2 Evl
section
variable {K : PySem.W.Frag} {σ : L2.St} {G H W : Hp} {te to : TE} {tl th : TO} {α : Type} {R : Rep α}
/-! f-strings -/
/-! join -/
/-! p[0], p[1] with effects; a cell's element -/
variable {G0 H0 : Hp} {ls : List Addr} {cs : Cs} {l : Addr} {β : Type} {S : Rep β}
/-! C(.., cell, ..) of a class with slots, the cell only read -/
variable {κ ι : Type} {B : Rep κ} {C : Addr} {A : AR ι} {fl : α → Ps} {ad : ι → Addr} {ys : List κ} {ta : TA}
/-! comprehensions over a lent list -/
section
variable {γ : Type} {T : Rep γ} {wi : TI} {g : TG} {tt : TT}
end
/-! what is never reached -/
end
end Sim

/-! for .. in zip(tuple, tuple) -/
namespace Sim
open PySem L2 Evl
section
variable {K : PySem.W.Frag} {σ : L2.St} {G0 H0 G H W : Hp} {ls : List Addr} {cs : Cs} {ta : TA} {α β : Type} {R : Rep α} {S : Rep β} {D : Ends} {tu tz : TS} {g : TG}
/-! displays of lists, sums of lists, opened -/
end
end Sim

/-! an object called: x(..), x of an own class with __call__ -/
namespace PySem.W
open PySem PySem.Spec PySem.Calls PyProof.Rows
end PySem.W
namespace L2
open PySem PySem.Spec PyProof.Rows
section
variable {X : Cx} {CX : CXT} {k i : Nat} {f C : Addr} {fd : FuncData} {ps : List Str} {sp : Sp} {E : St → XK} {x : Str} {p pos : Pos} {e : Expr} {es : List Expr} {t : TA}
end
end L2

set_option maxHeartbeats 4000000
/-! own classes: an __init__ whose first statement is super().__init__(..), over an own class's __init__ -/
namespace Sim
open PySem PySem.Spec PyProof.Rows L2 PySem.W PySem.Calls NdefX
/-- what the written part says of such an __init__, written in the class at D, of an instance of the class at C -/
structure SupP (P : Program) (K : Frag) (mg : Str → Option Value) (D C f g : Addr) (fd : FuncData) (F : NF) (ps : List Str) (dvs : List V) : Prop where
  lk : ∃ oc od osl dV kV doc pm an ct, fd = PySem.W.fnX F.name F.qual F.params F.body F.scope F.cl dV kV doc pm an (.ref F.c) ct ∧ K.lookup f = some ⟨oc, od, .func fd, osl⟩ ∧ DflV K dV dvs
  cd : PySem.W.codeIn K (.ref F.c) F.qual = true
  cl : ∃ cc oc od osl, F.cl = [(("__class__" : Str), cc)] ∧ K.lookup cc = some ⟨oc, od, .cell (some (.ref D)), osl⟩
  par : ∃ ar ps', (F.params.posonlyargs ++ F.params.args).head? = some ar ∧ ps = ar.arg :: ps' ∧ (F.scope.names.lookup ar.arg = some .local ∨ F.scope.names.lookup ar.arg = some .cell)
  code : ∃ ccl cdd vs ccs file tf, K.lookup F.c = some ⟨ccl, cdd, .fields vs, ccs⟩ ∧ vs[2]? = some (.str file tf) ∧ ((P.main.file : Str) == file) = true
  cls : ∃ cdD, clsIn K D = some cdD
  clsC : ∃ cdC, clsIn K C = some cdC
  sub : mroIn K C (.ref D) = some true
  ks : F.scope.names.lookup ("super" : Str) = some .globalImplicit
  kc : F.scope.names.lookup ("__class__" : Str) = some .free
  mg : mg "super" = none
  top : (P.main.scope.names.lookup ("super" : Str)).isSome = false
  opq : nsIn K cStatics "thirdparty.any" = some none
  sup : ks_superIn K C D "__init__" = some (some (.ref g))
  gt : typeIn K (.ref g) = some (.type "function")
  gf : fnIn K g = true
/-- what the written part says of a def named nm, written in the class at D, of an instance of the class at C, whose super() finds g -/
structure SupM (P : Program) (K : Frag) (mg : Str → Option Value) (D C f g : Addr) (nm : Str) (fd : FuncData) (F : NF) (ps : List Str) (dvs : List V) : Prop where
  lk : ∃ oc od osl dV kV doc pm an ct, fd = PySem.W.fnX F.name F.qual F.params F.body F.scope F.cl dV kV doc pm an (.ref F.c) ct ∧ K.lookup f = some ⟨oc, od, .func fd, osl⟩ ∧ DflV K dV dvs
  cd : PySem.W.codeIn K (.ref F.c) F.qual = true
  cl : ∃ cc oc od osl, F.cl = [(("__class__" : Str), cc)] ∧ K.lookup cc = some ⟨oc, od, .cell (some (.ref D)), osl⟩
  par : ∃ ar ps', (F.params.posonlyargs ++ F.params.args).head? = some ar ∧ ps = ar.arg :: ps' ∧ (F.scope.names.lookup ar.arg = some .local ∨ F.scope.names.lookup ar.arg = some .cell)
  code : ∃ ccl cdd vs ccs file tf, K.lookup F.c = some ⟨ccl, cdd, .fields vs, ccs⟩ ∧ vs[2]? = some (.str file tf) ∧ ((P.main.file : Str) == file) = true
  cls : ∃ cdD, clsIn K D = some cdD
  clsC : ∃ cdC, clsIn K C = some cdC
  sub : mroIn K C (.ref D) = some true
  ks : F.scope.names.lookup ("super" : Str) = some .globalImplicit
  kc : F.scope.names.lookup ("__class__" : Str) = some .free
  mg : mg "super" = none
  top : (P.main.scope.names.lookup ("super" : Str)).isSome = false
  opq : nsIn K cStatics "thirdparty.any" = some none
  sup : ks_superIn K C D nm = some (some (.ref g))
  gt : typeIn K (.ref g) = some (.type "function")
  gf : fnIn K g = true
theorem SupP.m {P : Program} {K : Frag} {mg : Str → Option Value} {D C f g : Addr} {fd : FuncData} {F : NF} {ps : List Str} {dvs : List V} (h : SupP P K mg D C f g fd F ps dvs) : SupM P K mg D C f g "__init__" fd F ps dvs :=
  ⟨h.lk, h.cd, h.cl, h.par, h.code, h.cls, h.clsC, h.sub, h.ks, h.kc, h.mg, h.top, h.opq, h.sup, h.gt, h.gf⟩
theorem SupM.p {P : Program} {K : Frag} {mg : Str → Option Value} {D C f g : Addr} {fd : FuncData} {F : NF} {ps : List Str} {dvs : List V} (h : SupM P K mg D C f g "__init__" fd F ps dvs) : SupP P K mg D C f g fd F ps dvs :=
  ⟨h.lk, h.cd, h.cl, h.par, h.code, h.cls, h.clsC, h.sub, h.ks, h.kc, h.mg, h.top, h.opq, h.sup, h.gt, h.gf⟩
section
variable {CX : CXT} {P : Program} {w : World} {K : PySem.W.Frag} {mg : Str → Option Value} {base : Heap} {N ps psg : List Str} {F : NF} {C D f g : Addr} {fd fdg : FuncData} {k : Nat} {sp spg : Sp} {e : Expr} {es : List Expr} {rest : List Stmt} {p0 p1 p2 p3 p4 : Pos} {pl : Sem Bool}
end
end Sim

/-! askers: objects whose field `asks` holds a list that is changed; that list is a cell of the caller -/
namespace Sim
open PySem L2 Evl
section
variable {K : PySem.W.Frag} {C : Addr} {σ : L2.St} {G0 H0 G H G2 H2 W : Hp} {ls : List Addr} {cs : Cs} {l : Addr} {ta : TA} {te : TE} {X : XK} {α β κ ι : Type} {R : Rep α} {S : Rep β} {T : Rep α} {B : Rep κ} {A : AR ι} {D : Ends} {tz : TS} {ns : List Str}
end
end Sim

/-! the hook with an __init__ that calls super().__init__ of an own class -/
namespace Sim
section
open PySem PySem.Spec PyProof.Rows L2 PySem.W PySem.Calls NdefX
/-- an __init__ that calls super().__init__ of an own class: written in cls, of instances of inst, the other one in base -/
structure SpD where
  cls : Str
  inst : Str
  base : Str
  qual : Str
  params : Arguments
  body : List Stmt
  scope : Scope
  dfl : List He.Dv := []
  m : Str := "__init__"
def mAd (K : Frag) (x m : Str) : Addr := He.ma K (He.ga K x) m
def fnYm (K : Frag) (x m : Str) : FnY := match K.lookup (mAd K x m) with
  | some ⟨_, _, .func fd, _⟩ => some (fd.qualname, fd.params, fd.body, fd.scope, fd.globals, fd.closure.map (·.1), fd.builtins)
  | _ => none
def SpD.x (d : SpD) : XcD := ⟨d.cls, d.qual, d.params, d.body, d.scope⟩
def SpD.val (d : SpD) : FnY := d.x.val
def SpD.fdB (K : Frag) (file : Str) (d : SpD) : Bool := match K.lookup (mAd K d.cls d.m) with
  | some ⟨_, _, .func fd, _⟩ => (match fd.closure with
    | [(_, cc)] => (match K.lookup cc with
      | some ⟨_, _, .cell (some (.ref D)), _⟩ => D == He.ga K d.cls
      | _ => false)
    | _ => false) && (match fd.code with
    | .ref cda => codeIn K (.ref cda) d.qual && (match K.lookup cda with
      | some ⟨_, _, .fields vs, _⟩ => (match (vs[2]? : Option Value) with
        | some (.str fl _) => fl == file
        | _ => false)
      | _ => false)
    | _ => false) && (decide (fd.name = d.m) && He.dflB K fd.defaults (d.dfl.map (He.Dv.v K)))
  | _ => false
def SpD.ok (K : Frag) (file : Str) (d : SpD) : Bool := d.fdB K file && ((clsIn K (He.ga K d.inst)).isSome && ((clsIn K (He.ga K d.cls)).isSome && (decide (mroIn K (He.ga K d.inst) (.ref (He.ga K d.cls)) = some true) &&
  (decide (nsIn K cStatics "thirdparty.any" = some none) && (decide (ks_superIn K (He.ga K d.inst) (He.ga K d.cls) d.m = some (some (.ref (mAd K d.base d.m)))) && (decide (typeIn K (.ref (mAd K d.base d.m)) = some (.type "function")) &&
  (fnIn K (mAd K d.base d.m) && decide (mAd K d.inst d.m = mAd K d.cls d.m))))))))
theorem SpD.knownM {P : Program} {K : Frag} {mg : Str → Option Value} {d : SpD} (e : fnYm K d.cls d.m = d.val) (c : d.ok K P.main.file = true) (hmg : mg "super" = none) (htop : (P.main.scope.names.lookup ("super" : Str)).isSome = false)
    (hks : d.scope.names.lookup ("super" : Str) = some .globalImplicit) (hkc : d.scope.names.lookup ("__class__" : Str) = some .free) {ar : Arg} {ars : List Arg} (hpa : d.params.posonlyargs ++ d.params.args = ar :: ars) (hka : d.scope.names.lookup ar.arg = some .local ∨ d.scope.names.lookup ar.arg = some .cell) :
    ∃ fd cc c, SupM P K mg (He.ga K d.cls) (He.ga K d.inst) (mAd K d.cls d.m) (mAd K d.base d.m) d.m fd ⟨d.m, d.qual, d.params, d.body, d.scope, [("__class__", cc)], c⟩ ((d.params.posonlyargs ++ d.params.args).map (·.arg)) (d.dfl.map (He.Dv.v K)) := by
  unfold SpD.ok at c
  obtain ⟨c0, c⟩ := He.ba c
  obtain ⟨c1, c⟩ := He.ba c
  obtain ⟨c2, c⟩ := He.ba c
  obtain ⟨c3, c⟩ := He.ba c
  obtain ⟨c4, c⟩ := He.ba c
  obtain ⟨c5, c⟩ := He.ba c
  obtain ⟨c6, c⟩ := He.ba c
  obtain ⟨c7, c8⟩ := He.ba c
  unfold SpD.fdB at c0
  unfold fnYm at e
  cases q : K.lookup (mAd K d.cls d.m) with
  | none => rw [q] at c0; cases c0
  | some o =>
    obtain ⟨oc, od, dt, osl⟩ := o
    rw [q] at c0 e
    cases dt with
    | func fd =>
      obtain ⟨n1, n2, n3, n4, n5, n6, n7, n8, n9, n10, n11, n12, n13, n14, n15⟩ := fd
      have e2 : (some (n2, n3, n4, n5, n6, n7.map (·.1), n15) : FnY) = (some (d.qual, d.params, .stmts d.body, d.scope, mainGlobals, ["__class__"], builtinsNs) : FnY) := e
      simp only [Option.some.injEq, Prod.mk.injEq] at e2
      obtain ⟨h2, h3, h4, h5, h6, h7, h8⟩ := e2
      subst h2 h3 h4 h5 h6 h8
      dsimp only at c0
      obtain ⟨kab, kc⟩ := He.ba c0
      obtain ⟨kA, kB⟩ := He.ba kab
      obtain ⟨kc, kd⟩ := He.ba kc
      have kc := of_decide_eq_true kc
      subst kc
      clear kab c0
      have kd := He.dflB_ok kd
      cases n7 with
      | nil => cases h7
      | cons p r =>
        cases r with
        | cons _ _ => simp at h7
        | nil =>
          obtain ⟨nm, cc⟩ := p
          have hn : nm = ("__class__" : Str) := by
            simp only [List.map_cons, List.map_nil, List.cons.injEq, and_true] at h7
            exact h7
          subst hn
          dsimp only at kA
          cases n13 with
          | ref cda =>
            dsimp only at kB
            obtain ⟨k4, k5⟩ := He.ba kB
            cases qc : K.lookup cc with
            | none => rw [qc] at kA; cases kA
            | some oc2 =>
              obtain ⟨a1, a2, a3, a4⟩ := oc2
              rw [qc] at kA
              cases a3 with
              | cell v =>
                cases v with
                | none => cases kA
                | some v =>
                  cases v with
                  | ref D =>
                    have hD : D = He.ga K d.cls := eq_of_beq kA
                    subst hD
                    cases qd : K.lookup cda with
                    | none => rw [qd] at k5; cases k5
                    | some od2 =>
                      obtain ⟨b1, b2, b3, b4⟩ := od2
                      rw [qd] at k5
                      cases b3 with
                      | fields vs =>
                        dsimp only at k5
                        cases qv : vs[2]? with
                        | none => rw [qv] at k5; cases k5
                        | some v2 =>
                          rw [qv] at k5
                          cases v2 with
                          | str fl tf =>
                            have hfl : fl = P.main.file := eq_of_beq k5
                            subst hfl
                            obtain ⟨cdD, hcd⟩ := Option.isSome_iff_exists.mp c2
                            exact ⟨_, cc, cda, ⟨oc, od, osl, n8, n9, n10, n11, n12, n14, rfl, q, kd⟩, k4, ⟨cc, a1, a2, a4, rfl, qc⟩, ⟨ar, ars.map (·.arg), by rw [hpa]; rfl, by rw [hpa]; rfl, hka⟩, ⟨b1, b2, vs, b4, P.main.file, tf, qd, qv, by simp⟩, ⟨cdD, hcd⟩, Option.isSome_iff_exists.mp c1,
                              of_decide_eq_true c3, hks, hkc, hmg, htop, of_decide_eq_true c4, of_decide_eq_true c5, of_decide_eq_true c6, c7⟩
                          | _ => cases k5
                      | _ => cases k5
                  | _ => cases kA
              | _ => cases kA
          | _ => cases kB
    | _ => cases c0
theorem SpD.known {P : Program} {K : Frag} {mg : Str → Option Value} {d : SpD} (hm : d.m = ("__init__" : Str)) (e : fnYm K d.cls d.m = d.val) (c : d.ok K P.main.file = true) (hmg : mg "super" = none) (htop : (P.main.scope.names.lookup ("super" : Str)).isSome = false)
    (hks : d.scope.names.lookup ("super" : Str) = some .globalImplicit) (hkc : d.scope.names.lookup ("__class__" : Str) = some .free) {ar : Arg} {ars : List Arg} (hpa : d.params.posonlyargs ++ d.params.args = ar :: ars) (hka : d.scope.names.lookup ar.arg = some .local ∨ d.scope.names.lookup ar.arg = some .cell) :
    ∃ fd cc c, SupP P K mg (He.ga K d.cls) (He.ga K d.inst) (xcAd K d.cls) (xcAd K d.base) fd ⟨"__init__", d.qual, d.params, d.body, d.scope, [("__class__", cc)], c⟩ ((d.params.posonlyargs ++ d.params.args).map (·.arg)) (d.dfl.map (He.Dv.v K)) := by
  obtain ⟨fd, cc, c2, Y⟩ := SpD.knownM e c hmg htop hks hkc hpa hka
  rw [hm] at Y
  exact ⟨fd, cc, c2, Y.p⟩
end
open PySem PySem.Spec PyProof.Rows L2 Evl
section
variable {fa : List He.Fa} {fn : List He.DefD} {es : List (PySem.W.Frag → Bool)} {xs : List XcD} {gs : List GeD} {sp : List SpD} {file : Str} {K : PySem.W.Frag} {mg : Str → Option Value}
end
end Sim

/-! askers: calls that read the lent list and may raise; loops over a lent list that an expression gives -/
namespace Sim
open PySem L2 Evl
section
variable {K : PySem.W.Frag} {C : Addr} {σ : L2.St} {G0 H0 G H G2 H2 W : Hp} {ls : List Addr} {cs : Cs} {l : Addr} {ta : TA} {X : XK} {te to tl : TE} {α β κ ι γ : Type} {R : Rep α} {S : Rep β} {T : Rep γ} {B : Rep κ} {A : AR ι} {D : Ends} {tz tu : TS} {g : TG} {ns : List Str} {fl : α → List Pd}
/-! ### tests, opened -/
end
end Sim

/-! askers handed to defs; parts of mixed data -/
namespace Sim
open PySem L2 Evl
section
variable {K : PySem.W.Frag} {C : Addr} {σ : L2.St} {G0 H0 G H G2 H2 W : Hp} {ls : List Addr} {cs : Cs} {l : Addr} {ta : TA} {X : XK} {te to tl : TE} {α β κ ι γ : Type} {R : Rep α} {S : Rep β} {T : Rep γ} {B : Rep κ} {A : AR ι} {D : Ends} {tz tu : TS}
/-! mixed data -/
end
end Sim

/-! a field written again -/
namespace Sim
open PySem L2 Evl
section
variable {K : PySem.W.Frag} {C : Addr} {σ : L2.St} {G0 H0 G H : Hp} {ls : List Addr} {cs : Cs} {l : Addr} {te : TE} {β : Type} {S : Rep β} {D : Ends} {tz : TS} {ns : List Str}
end
end Sim

/-! cells of any kind, lent to a def that only reads them -/
namespace Sim
open PySem L2 Evl
section
variable {σ : L2.St} {G0 H0 G H G1 H1 W : Hp} {ls : List Addr} {cs : Cs} {l : Addr} {cp0 : CP} {te : TE} {α β : Type} {R : Rep α} {S : Rep β} {cp : β → CP}
structure LentP (G W : Hp) (l : Addr) (cp : CP) : Prop where
  n : G l = none
  at_ : ∃ o, W l = some o ∧ cp.p G o
theorem LentP.up (L : LentP G W l cp0) (e' : Ex W H) (u : Up G H G1 H1) : LentP G1 H1 l cp0 := by
  obtain ⟨o, h2, h3⟩ := L.at_
  exact ⟨u.nw _ (by rw [e' _ _ h2]; simp) L.n, o, u.hh _ _ (e' _ _ h2), cp0.mono u.gg h3⟩
variable {K : PySem.W.Frag} {C : Addr} {ta : TA} {X : XK} {κ ι δ γ : Type} {A : AR ι} {B : Rep κ} {D : Ends} {tz : TS} {ns : List Str}
/-! dict(d), d a dict -/
end
end Sim

/-! TableAsker: an __init__ with a default; arguments read at the heap itself -/
namespace Sim
open PySem PySem.Spec PyProof.Rows L2 Evl
section
variable {K : PySem.W.Frag} {C : Addr} {σ : L2.St} {G0 H0 G H G2 H2 W : Hp} {ls : List Addr} {cs : Cs} {l : Addr} {ta tb tc : TE} {td : TE} {X : XK} {α β δ κ ι : Type} {R : Rep ι} {S : Rep β} {S2 : Rep δ} {B : Rep κ} {D : Ends} {tz : TS} {ns : List Str}
theorem EC.s {κ : Type} [DecidableEq κ] {kf : κ → Key} {R : Rep α} {m : Option (List (κ × α))} (sc : R.Sc) (e : Ex G W) (h : EC ta σ W W (cM kf R) m) : EC ta σ G W (cM kf R) m := fun x hx H e1 e2 Q q =>
  h x hx H e2 e2 Q fun p H2 G2 np u w => by
    have up : Up G H G H2 := Up.same e1 u.hh
    refine q p H2 G np up ⟨up.gh, fun c hc => ?_, w.nd⟩
    obtain ⟨h1, o, h2, ws, rfl, h4⟩ := w.at_ c hc |> fun z => by
      rw [List.mem_singleton.mp hc] at z
      exact z
    rw [List.mem_singleton.mp hc]
    refine ⟨?_, _, h2, ws, rfl, Paired.mapP h4 fun _ _ q => ⟨q.1, sc q.2⟩⟩
    cases qz : G p with
    | none => rfl
    | some o => rw [e1 p o qz] at np; cases np
end
end Sim

/-! a comprehension whose test changes cells -/
namespace Sim
open PySem L2 Evl
section
variable {K : PySem.W.Frag} {σ : L2.St} {G0 H0 G H : Hp} {ls : List Addr} {cs : Cs} {tl te : TE} {tt : TT} {α γ : Type} {R : Rep α} {T : Rep γ} {D : Ends} {tz : TS}
end
end Sim
namespace Sim
open PySem L2 Evl
section
variable {K : PySem.W.Frag} {σ : L2.St} {G0 H0 G H : Hp} {ls : List Addr} {cs : Cs} {l : Addr} {α κ : Type} [DecidableEq κ] {kf : κ → Key} {R : Rep α} {Q : VK}
end
end Sim

/-! functions made by a lambda; their captured cells laid in the heap as known things -/
namespace LamF
open PySem PySem.Spec PyProof.Rows L2 LamX NdefX
/-- a cell, known as it stands -/
def CelO (o : Obj) : HO := .frz o (.ext fun _ => True)
def unlayH (cs : List (Addr × Obj)) (H : Hp) : Hp := fun a => match cs.lookup a with
  | some _ => none
  | none => H a
section
variable {cs : List (Addr × Obj)} {H H' H0 : Hp} {a : Addr} {o : Obj}
end
section
variable {P : Program} {w : World} {cs : List (Addr × Obj)} {H H' H0 H1 : Hp} {h h' B : Heap} {fs : List Addr}
end
section
variable {P : Program} {w : World} {CX : CXT} {outer : List Env} {H : Hp} {s s' : Shared} {Q : VK} {E : XK} {cs : List (Addr × Obj)}
end
end LamF

/-! lambdas: made, called, handed over -/
namespace LamF
open PySem PySem.Spec PyProof.Rows L2 LamX NdefX
/-- a function that a lambda made -/
structure LF where
  qual : Str
  params : Arguments
  body : Expr
  scope : Scope
  cl : List (Str × Addr)
  c : Addr
abbrev LF.obj (F : LF) (pm ctv : Value) : Obj := PySem.W.kla_obj "<lambda>" F.qual F.params F.body F.scope F.cl pm F.c ctv
def FnL (f : Addr) (F : LF) : HO := .ext fun h => ∃ pm ctv, h.get? f = some (F.obj pm ctv)
/-- the table's codes bear this name -/
structure Cds (H : Hp) (q : Str) (ps : Array Value) : Prop where
  ok : TriplesOk ps.toList
  cd : ∀ (pos : Pos) (cv : Value), codeAmong pos ps.toList = some cv → ∃ c, cv = .ref c ∧ H c = some (CodeO c q)
section
variable {X : Cx} {pins : List (Addr × Obj)} {σ : L2.St} {H : Hp} {s : Shared}
end
/-! ### a call with the own cells of these names laid -/
section
variable {X : Cx} {pins : List (Addr × Obj)} {σ : L2.St} {H : Hp} {s : Shared} {fr : List Str}
theorem mem_look {α β : Type} [BEq α] [LawfulBEq α] : ∀ {l : List (α × β)} {a : α} {b : β}, l.lookup a = some b → (a, b) ∈ l
  | [], _, _, h => by cases h
  | (x, y) :: l, a, b, h => by
    rw [List.lookup_cons] at h
    cases e : a == x with
    | true =>
      rw [e] at h
      cases h
      rw [eq_of_beq e]
      exact List.mem_cons_self ..
    | false => rw [e] at h; exact List.mem_cons_of_mem _ (mem_look h)
end
section
variable {X : Cx} {pins : List (Addr × Obj)} {σ : L2.St} {H : Hp} {s : Shared} {fr : List Str} {cs : List (Addr × Obj)}
end
section
variable {X : Cx} {CX : CXT} {k : Nat} {f : Addr} {fd : FuncData} {ps : List Str} {sp : Sp} {E : L2.St → XK} {x : Str} {p pos : Pos} {e : Expr} {es : List Expr} {t : TA} {fr : List Str}
end
end LamF

/-! functions made by a lambda: called; handed back by a def -/
namespace LamF
open PySem PySem.Spec PyProof.Rows L2 LamX NdefX
/-- the function F stands at f, its captured names fr hold us -/
structure Clos (H : Hp) (f : Addr) (F : LF) (fr : List Str) (us : List V) : Prop where
  at_ : H f = some (FnL f F)
  co : H F.c = some (CodeO F.c F.qual)
  ce : ∀ (i : Nat) (y : Str), fr[i]? = some y → ∃ c o u v, F.cl.lookup y = some c ∧ H c = some (CelO o) ∧ o.data = .cell (some u) ∧ us[i]? = some v ∧ RelV v u
  only : ∀ y c, F.cl.lookup y = some c → y ∈ fr
  inj : ∀ x y c, F.cl.lookup x = some c → F.cl.lookup y = some c → x = y
  ln : us.length = fr.length
theorem Clos.ex {H H' : Hp} {f : Addr} {F : LF} {fr : List Str} {us : List V} (c : Clos H f F fr us) (e : ∀ a o, H a = some o → H' a = some o) : Clos H' f F fr us :=
  ⟨e _ _ c.at_, e _ _ c.co, fun i y h => let ⟨a, o, u, v, h1, h2, h3⟩ := c.ce i y h; ⟨a, o, u, v, h1, e _ _ h2, h3⟩, c.only, c.inj, c.ln⟩
/-- its cells as they stand -/
def celsH (F : LF) (fr : List Str) (H : Hp) : List (Addr × Obj) := fr.filterMap fun y => F.cl.lookup y >>= fun c => match H c with
  | some (.frz o _) => some (c, o)
  | _ => none
section
variable {H : Hp} {f : Addr} {F : LF} {fr : List Str} {us : List V}
theorem Clos.mem (C : Clos H f F fr us) {c : Addr} {o : Obj} (e : (celsH F fr H).lookup c = some o) : H c = some (CelO o) ∧ ∃ (i : Nat) (y : Str), fr[i]? = some y ∧ F.cl.lookup y = some c := by
  obtain ⟨y, hy, e⟩ := List.mem_filterMap.mp (mem_look e)
  obtain ⟨i, hi⟩ := List.getElem?_of_mem hy
  obtain ⟨c1, o1, u, v, h1, h2, h3⟩ := C.ce i y hi
  rw [h1] at e
  simp only [Option.bind_eq_bind, Option.bind_some] at e
  rw [h2] at e
  cases e
  exact ⟨h2, i, y, hi, h1⟩
end
/-- a thing that can be called: what its call promises -/
def CalOk (P : Program) (w : World) (K : PySem.W.Frag) (mg : Str → Option Value) (base : Heap) (CX : CXT) (k : Nat) (f : Addr) (sp : Sp) : Prop :=
  ∀ (A : Around) (outer : List Env) (s : Shared) (H : Hp) (us : List Value) (vs : List V) (Q : VK) (E : XK), Room k A → Env0 P w K mg base A outer s H → Vals vs us → sp vs H Q E → codeAny (model P w) A (.call (.ref f) ⟨us, []⟩) (CR CX outer P w H s Q E) s
theorem CalOk.mono {P : Program} {w : World} {K : PySem.W.Frag} {mg : Str → Option Value} {base : Heap} {CX : CXT} {j k : Nat} {f : Addr} {sp : Sp} (h : CalOk P w K mg base CX j f sp) (hjk : j ≤ k) : CalOk P w K mg base CX k f sp :=
  fun A outer s H us vs Q E hr => h A outer s H us vs Q E (hr.mono hjk)
theorem CalOk.imp {P : Program} {w : World} {K : PySem.W.Frag} {mg : Str → Option Value} {base : Heap} {CX : CXT} {k : Nat} {f : Addr} {sp sp' : Sp} (h : CalOk P w K mg base CX k f sp) (i : ∀ vs H Q E, sp' vs H Q E → sp vs H Q E) : CalOk P w K mg base CX k f sp' :=
  fun A outer s H us vs Q E hr e0 r q => h A outer s H us vs Q E hr e0 r (i _ _ _ _ q)
section
variable {CX : CXT} {P : Program} {w : World} {K : PySem.W.Frag} {mg : Str → Option Value} {base : Heap} {N ps fr psg : List Str} {F : LF} {f g : Addr} {fdg : FuncData} {k : Nat} {spg : Sp} {x : Str} {e : Expr} {es : List Expr} {p0 pos : Pos} {js : List Nat} {us : List V}
end
/-! ### x(..), x a local name that holds something that can be called -/
/-- an instance, or a function that a lambda made -/
def Cb (H : Hp) (f : Addr) : Prop := (∃ F, H f = some (FnL f F)) ∨ ∃ C dx fs, H f = some (.ins C dx fs)
/-- it stands as before -/
def Cb2 (H H1 : Hp) (f : Addr) : Prop := (∀ F, H f = some (FnL f F) → H1 f = some (FnL f F)) ∧ ∀ C dx fs, H f = some (.ins C dx fs) → ∃ gs, H1 f = some (.ins C dx gs)
theorem Cb2.of {H H1 : Hp} {f : Addr} (e : ∀ o, H f = some o → H1 f = some o) : Cb2 H H1 f := ⟨fun F h => e _ h, fun C dx fs h => ⟨fs, e _ h⟩⟩
section
variable {X : Cx} {CX : CXT} {k i : Nat} {E : L2.St → XK} {x : Str} {p pos : Pos} {e : Expr} {es : List Expr} {t : TA}
end
end LamF

/-! a def that hands back a lambda; defs whose code object is told -/
namespace LamF
open PySem PySem.Spec PyProof.Rows L2 LamX NdefX
/-- the code object of the def at f, its table -/
def codOf (K : PySem.W.Frag) (f : Addr) : Addr := match K.lookup f with
  | some ⟨_, _, .func fd, _⟩ => (match fd.code with
    | .ref c => c
    | _ => 0)
  | _ => 0
def tabOf (K : PySem.W.Frag) (f : Addr) : Addr := match K.lookup (codOf K f) with
  | some ⟨_, _, .fields vs, _⟩ => (match (vs[11]? : Option Value) with
    | some (.ref P) => P
    | _ => 0)
  | _ => 0
section
variable {P : Program} {w : World} {K : PySem.W.Frag} {mg : Str → Option Value} {base : Heap} {x qual : Str} {params : Arguments} {body : List Stmt} {scope : Scope} {f : Addr} {fd : FuncData} {CX : CXT} {N ps : List Str} {k : Nat} {sp : Sp}
end
end LamF

/-! things that are asked: functions and objects called with a name; what they change is a state -/
namespace Sim
open PySem PySem.Spec PyProof.Rows L2 Evl LamX LamF NdefX
theorem Cds.mono {G G' : Hp} {q : Str} {ps : Array Value} (e : Ex G G') (c : Cds G q ps) : Cds G' q ps := ⟨c.ok, fun p cv h => let ⟨a, h1, h2⟩ := c.cd p cv h; ⟨a, h1, e _ _ h2⟩⟩
/-- the table of a def's code object, as a cell -/
def cTab (q : Str) : CP := ⟨fun G o => ∃ ps, o = .tbl ps ∧ Cds G q ps, fun e ⟨ps, h1, h2⟩ => ⟨ps, h1, Cds.mono e h2⟩⟩
/-! ### asked -/
section
variable (P : Program) (w : World) (K : PySem.W.Frag) (mg : Str → Option Value) (base : Heap) (k : Nat)
/-- what asking promises: never raises / may raise -/
def PAsk {κ : Type} (ci : κ → Cs) (ask : κ → Str → Option (Int × κ)) (G0 : Hp) : Sp := fun vs H Q _ => ∃ G s nm x s', vs = [.str nm] ∧ Ex G0 G ∧ Wd G H (ci s) ∧ ask s nm = some (x, s') ∧ ∀ H2 G2, Fr G H G2 H2 ((ci s).map (·.1)) → Wd G2 H2 (ci s') → Q (.int x) H2
def PAskX {κ : Type} (ci : κ → Cs) (ask : κ → Str → Option ((Xn ⊕ Int) × κ)) (G0 : Hp) : Sp := fun vs H Q E => ∃ G s nm r s', vs = [.str nm] ∧ Ex G0 G ∧ Wd G H (ci s) ∧ ask s nm = some (r, s') ∧
  (∀ e, r = .inl e → ∀ d H2 G2, Fr G H G2 H2 ((ci s).map (·.1)) → Wd G2 H2 (ci s') → Xat K G2 e d → E (.ref (He.ga K e.cls)) (some d) H2) ∧ ∀ x, r = .inr x → ∀ H2 G2, Fr G H G2 H2 ((ci s).map (·.1)) → Wd G2 H2 (ci s') → Q (.int x) H2
structure AskP {κ : Type} (G : Hp) (f : Addr) (ci : κ → Cs) (ask : κ → Str → Option (Int × κ)) : Prop where
  cb : Cb G f
  ok : CalOk P w K mg base CX0 k f (PAsk ci ask G)
  fx : ∀ s s', (ci s).map (·.1) = (ci s').map (·.1)
structure AskX {κ : Type} (G : Hp) (f : Addr) (ci : κ → Cs) (ask : κ → Str → Option ((Xn ⊕ Int) × κ)) : Prop where
  cb : Cb G f
  ok : CalOk P w K mg base (L2.CX P w) k f (PAskX K ci ask G)
  fx : ∀ s s', (ci s).map (·.1) = (ci s').map (·.1)
end
section
variable {P : Program} {w : World} {K : PySem.W.Frag} {mg : Str → Option Value} {base : Heap} {k kk : Nat} {κ : Type} {ci : κ → Cs}
theorem cb_mono {G G' : Hp} {f : Addr} (e : Ex G G') (c : Cb G f) : Cb G' f := c.elim (fun ⟨F, h⟩ => .inl ⟨F, e _ _ h⟩) fun ⟨C, dx, fs, h⟩ => .inr ⟨C, dx, fs, e _ _ h⟩
theorem AskP.mono {ask : κ → Str → Option (Int × κ)} {G G' : Hp} {f : Addr} (e : Ex G G') (a : AskP P w K mg base k G f ci ask) : AskP P w K mg base k G' f ci ask :=
  ⟨cb_mono e a.cb, a.ok.imp fun vs H Q E ⟨G2, s, nm, x, s', h1, h2, h3⟩ => ⟨G2, s, nm, x, s', h1, e.trans h2, h3⟩, a.fx⟩
theorem AskX.mono {ask : κ → Str → Option ((Xn ⊕ Int) × κ)} {G G' : Hp} {f : Addr} (e : Ex G G') (a : AskX P w K mg base k G f ci ask) : AskX P w K mg base k G' f ci ask :=
  ⟨cb_mono e a.cb, a.ok.imp fun vs H Q E ⟨G2, s, nm, x, s', h1, h2, h3⟩ => ⟨G2, s, nm, x, s', h1, e.trans h2, h3⟩, a.fx⟩
variable {G0 H0 G H G2 H2 : Hp} {ls : List Addr} {cs : Cs} {f : Addr} {X : Cx} {σ : L2.St} {i : Nat} {CX : CXT}
end
/-! ### defs that ask -/
section
variable (P : Program) (w : World) (K : PySem.W.Frag) (mg : Str → Option Value) (base : Heap) (k : Nat)
end
/-! ### a function made by a lambda and handed over at once -/
/-- a list cell's content -/
def DnC (cp : CP) : Prop := ∀ {G : Hp} {cs : List (Addr × Obj)} {o : HO}, (∀ c o, cs.lookup c = some o → G c = some (CelO o)) → cp.p G o → cp.p (unlayH cs G) o
section
variable {G0 H0 G H G2 H2 : Hp} {ls : List Addr} {cs : Cs} {cels : List (Addr × Obj)}
end
/-- the data heap behind the making of a function -/
def lamG (G H H1 : Hp) : Hp := fun a => match H a with
  | none => H1 a
  | some _ => G a
section
variable {G0 H0 G H H1 : Hp} {ls : List Addr} {cs : Cs} {Pt fl : Addr} {F : LF} {ps0 ps : Array Value} {j : Nat} {q : Str}
theorem lamG_new {a : Addr} (h : H a = none) : lamG G H H1 a = H1 a := by unfold lamG; rw [h]
theorem lamG_old {a : Addr} {o : HO} (h : H a = some o) : lamG G H H1 a = G a := by unfold lamG; rw [h]
/-- the cells behind the making of a function: the table is written -/
theorem Wo.made (w : Wo G0 H0 ls G H cs) (hc : cs[j]? = some (Pt, cTab q)) (ex : ∀ b o, b ≠ Pt → H b = some o → H1 b = some o) (tb : H1 Pt = some (.tbl ps)) (cd : Cds (lamG G H H1) q ps) : Wo G0 H0 ls (lamG G H H1) H1 cs ∧ Ex G (lamG G H H1) := by
  obtain ⟨gP, oP, hP, _⟩ := w.w.getAt hc
  have eG : Ex G (lamG G H H1) := fun a o h => by
    rw [lamG_old (w.ex a o h)]
    exact h
  have e1 : Ex (lamG G H H1) H1 := fun a o h => by
    cases z : H a with
    | none => rw [lamG_new z] at h; exact h
    | some o2 =>
      rw [lamG_old z] at h
      have h2 := w.ex a o h
      exact ex a o (fun e => by rw [e, gP] at h; cases h) h2
  refine ⟨⟨⟨e1, fun c hm => ?_, w.w.nd⟩, ⟨w.f.gg.trans eG, fun a o h1 h2 => ?_, fun a h1 h2 => ?_, fun a h => ?_⟩, w.lo⟩, eG⟩
  · obtain ⟨h1, o, h2, h3⟩ := w.w.at_ c hm
    refine ⟨by rw [lamG_old h2]; exact h1, ?_⟩
    by_cases e : c.1 = Pt
    · have hcc : c = (Pt, cTab q) := by
        obtain ⟨i, hi⟩ := List.getElem?_of_mem hm
        have a1 : (cs.map (·.1))[i]? = some Pt := by rw [List.getElem?_map, hi, ← e]; rfl
        have a2 : (cs.map (·.1))[j]? = some Pt := by rw [List.getElem?_map, hc]; rfl
        have := nodup_ix w.w.nd a1 a2
        subst this
        rw [hi] at hc
        exact Option.some.inj hc
      rw [hcc]
      exact ⟨_, tb, ps, rfl, cd⟩
    · exact ⟨o, ex _ _ e h2, c.2.mono eG h3⟩
  · refine ex a o (fun e => ?_) (w.f.fr a o h1 h2)
    have hm : (Pt, cTab q) ∈ cs := List.mem_of_getElem? hc
    rcases w.lo _ hm with z | z
    · exact h2 (by rw [e]; exact z)
    · rw [e] at h1
      rw [show H0 Pt = none from z] at h1
      cases h1
  · have h3 := w.f.nw a h1 h2
    have h4 := w.f.st a h1
    cases z : H a with
    | none => exact absurd z h4
    | some o => rw [lamG_old z]; exact h3
  · have h4 := w.f.st a h
    cases z : H a with
    | none => exact absurd z h4
    | some o =>
      by_cases e : a = Pt
      · rw [e, tb]; simp
      · rw [ex a o e z]; simp
end
end Sim

/-! x = f(.., lambda ..): the function asks a list of the def's own -/
namespace Sim
open PySem PySem.Spec PyProof.Rows L2 Evl LamX LamF NdefX
section
variable {X : Cx} {kk : Nat} {σ : L2.St} {G0 H0 G H : Hp} {ls : List Addr} {cs : Cs} {ta : TA} {ι α γ : Type} {A : AR ι} {R : Rep γ} {Ra : Rep α} {D : Ends} {tz : TS}
end
end Sim

/-! calls that change cells at any places; the tail of the cells; lambdas handed over, printed by gen.py -/
namespace Sim
open PySem PySem.Spec PyProof.Rows L2 Evl LamX LamF NdefX
section
variable {σ : L2.St} {G0 H0 G H G2 H2 : Hp} {ls : List Addr} {cs : Cs}
/-! ### the tail -/
variable {P : Program} {w : World} {K : PySem.W.Frag} {mg : Str → Option Value} {base : Heap} {k : Nat} {κ : Type} {ci : κ → Cs} {f : Addr}
/-- where the captured names stand -/
def FrAt (X : Cx) (σ : L2.St) : List Str → List V → Prop
  | [], [] => True
  | y :: fr, u :: us => (∃ jx : Nat, X.N[jx]? = some y ∧ σ[jx]? = some (some u) ∧ Vis X.env.scope y) ∧ FrAt X σ fr us
  | _, _ => False
theorem FrAt.at_ {X : Cx} : ∀ {fr : List Str} {us : List V}, FrAt X σ fr us → ∀ (n : Nat) (y : Str), fr[n]? = some y → ∃ (jx : Nat) (v : V), X.N[jx]? = some y ∧ σ[jx]? = some (some v) ∧ Vis X.env.scope y ∧ us[n]? = some v
  | [], [], _, n, y, h => by cases h
  | _ :: _, _ :: _, ⟨⟨jx, h1, h2, h3⟩, _⟩, 0, y, h => by cases h; exact ⟨jx, _, h1, h2, h3, rfl⟩
  | _ :: _, _ :: _, ⟨_, hr⟩, n + 1, y, h => FrAt.at_ hr n y h
theorem FrAt.len {X : Cx} : ∀ {fr : List Str} {us : List V}, FrAt X σ fr us → us.length = fr.length
  | [], [], _ => rfl
  | _ :: _, _ :: _, ⟨_, h⟩ => congrArg (· + 1) (FrAt.len h)
end
end Sim

/-! the hook with tables of code objects; the law's end with tables -/
namespace Sim
open PySem PySem.Spec PyProof.Rows L2 Evl LamX LamF NdefX
/-- a def with lambdas: its code object, its table, the lambda's qualified name -/
structure TbD where
  at_ : Str × Option Str
  q : Str
def TbD.c (K : PySem.W.Frag) (d : TbD) : Addr × Addr := (codOf K (He.fAd K d.at_), tabOf K (He.fAd K d.at_))
end Sim

/-! a for over a list that is a cell and stays as it is; and in a test that changes cells -/
namespace Sim
open PySem L2 Evl
section
variable {K : PySem.W.Frag} {σ : L2.St} {G0 H0 G H G2 H2 : Hp} {ls : List Addr} {cs : Cs} {l : Addr} {cp cp' : CP} {tu tz : TS} {t u : TT} {g : TG} {D : Ends} {α : Type} {R : Rep α}
def DnAll : Cs → Prop
  | [] => True
  | c :: cs => DnC c.2 ∧ DnAll cs
theorem DnAll.at_ : ∀ {cs : Cs}, DnAll cs → ∀ c ∈ cs, DnC c.2
  | _ :: _, ⟨h1, h2⟩, c, h => by
    rcases List.mem_cons.mp h with e | e
    · rw [e]; exact h1
    · exact DnAll.at_ h2 c e
end
end Sim

/-! sides: values that are called with what is asked -/
namespace LamF
open PySem PySem.Spec PyProof.Rows L2 LamX NdefX
section
variable {X : Cx} {CX : CXT} {k : Nat} {pins : List (Addr × Obj)} {σ : L2.St} {H : Hp} {s : Shared} {a C dx : Addr} {fs : List (Str × V)} {v : V} {A : Around} {E : Value → Shared → Prop}
/-- what can be called: an instance, a function of a lambda, a def -/
def Cbk (K : PySem.W.Frag) (H : Hp) (f : Addr) : Prop := Cb H f ∨ PySem.W.keepIn K (.ref f) = true
end
end LamF
namespace Sim
open PySem PySem.Spec PyProof.Rows L2 Evl LamX LamF NdefX
/-! ### an object with an attribute -/
def rAt {β : Type} (K : PySem.W.Frag) (S : Rep β) (f : Str) : Rep β := ⟨fun G v x => ∃ a C dx fs u, v = .ref a ∧ G a = some (.ins C dx fs) ∧ Cls K C ∧ NoAttr K C f ∧ fs.lookup f = some u ∧ S.r G u x,
  fun e ⟨a, C, dx, fs, u, h1, h2, h3, h4, h5, h6⟩ => ⟨a, C, dx, fs, u, h1, e _ _ h2, h3, h4, h5, S.mono e h6⟩⟩
theorem cbk_mono {K : PySem.W.Frag} {G G2 : Hp} {f : Addr} (e : Ex G G2) (h : Cbk K G f) : Cbk K G2 f := h.elim (fun z => .inl (cb_mono e z)) .inr
/-! ### sides -/
section
variable (P : Program) (w : World) (K : PySem.W.Frag) (mg : Str → Option Value) (base : Heap) (j : Nat)
/-- what calling a side with the thing asked promises; o: the order of the thing asked -/
def PSd {ω : Type} (rO : Rep ω) (sem : ∀ {κ : Type}, (κ → Str → Option ((Xn ⊕ Int) × κ)) → ω → κ → Option ((Xn ⊕ Int) × κ)) (G0 : Hp) : Sp := fun vs H Q E => ∃ (κ : Type) (ci : κ → Cs) (ask : κ → Str → Option ((Xn ⊕ Int) × κ)) (G : Hp) (fk : Addr) (o : ω) (s : κ) (r : Xn ⊕ Int) (s' : κ),
  vs = [.ref fk] ∧ Ex G0 G ∧ (rAt K rO "order").r G (.ref fk) o ∧ AskX P w K mg base j G fk ci ask ∧ Wd G H (ci s) ∧ sem ask o s = some (r, s') ∧
  (∀ e, r = .inl e → ∀ d H2 G2, Fr G H G2 H2 ((ci s).map (·.1)) → Wd G2 H2 (ci s') → Xat K G2 e d → E (.ref (He.ga K e.cls)) (some d) H2) ∧ ∀ x, r = .inr x → ∀ H2 G2, Fr G H G2 H2 ((ci s).map (·.1)) → Wd G2 H2 (ci s') → Q (.int x) H2
structure SideOk {ω : Type} (rO : Rep ω) (k : Nat) (G : Hp) (f : Addr) (sem : ∀ {κ : Type}, (κ → Str → Option ((Xn ⊕ Int) × κ)) → ω → κ → Option ((Xn ⊕ Int) × κ)) : Prop where
  cb : Cbk K G f
  ok : CalOk P w K mg base (L2.CX P w) k f (PSd P w K mg base j rO (fun a => sem a) G)
end
section
variable {P : Program} {w : World} {K : PySem.W.Frag} {mg : Str → Option Value} {base : Heap} {j k kk : Nat} {κ ω : Type} {ci : κ → Cs} {G0 H0 G H G2 H2 : Hp} {ls : List Addr} {cs : Cs} {f fk : Addr} {rO : Rep ω} {σ : L2.St}
variable {sem : ∀ {κ : Type}, (κ → Str → Option ((Xn ⊕ Int) × κ)) → ω → κ → Option ((Xn ⊕ Int) × κ)}
theorem SideOk.mono (e : Ex G G2) (h : SideOk P w K mg base j rO k G f (fun a => sem a)) : SideOk P w K mg base j rO k G2 f (fun a => sem a) :=
  ⟨cbk_mono e h.cb, h.ok.imp fun vs H Q E ⟨κ, ci, ask, G, fk, o, s, r, s', a1, a2, a3⟩ => ⟨κ, ci, ask, G, fk, o, s, r, s', a1, e.trans a2, a3⟩⟩
end
end Sim

/-! what sides are: objects, lambdas, defs; things that are asked: objects, lambdas -/
namespace Sim
open PySem PySem.Spec PyProof.Rows L2 Evl LamX LamF NdefX
section
variable {P : Program} {w : World} {K : PySem.W.Frag} {mg : Str → Option Value} {base : Heap} {j k kk : Nat} {κ ω : Type} {ci : κ → Cs} {G0 H0 G H G2 H2 : Hp} {ls : List Addr} {cs : Cs} {f fk a C f0 : Addr} {rO : Rep ω} {σ : L2.St} {fd : FuncData} {ps : List Str}
end
section
variable {X : Cx} {kk : Nat} {σ : L2.St} {G0 H0 G H : Hp} {ls : List Addr} {cs : Cs} {ta : TA} {ι α γ : Type} {A : AR ι} {R : Rep γ} {Ra : Rep α} {D : Ends} {tz : TS}
end
end Sim

/-! methods whose arguments change cells; a call that hands on what is asked and may raise -/
namespace Sim
open PySem PySem.Spec PyProof.Rows L2 Evl LamX LamF NdefX
section
variable {P : Program} {w : World} {K : PySem.W.Frag} {mg : Str → Option Value} {base : Heap} {j k kk : Nat} {κ ω α β : Type} {ci : κ → Cs} {G0 H0 G H G2 H2 W : Hp} {ls : List Addr} {cs : Cs} {f fk a C f0 : Addr} {rO : Rep ω} {σ : L2.St} {fd : FuncData} {ps ns : List Str} {to : TE} {ta : TA}
end
end Sim

/-! a | b of two own classes with the same method -/
namespace PySem.W
open PySem PySem.Spec PyProof.Rows PySem.Calls
variable {prog : Program} {w : World} {A : Around} {E : Value → Shared → Prop} {s : Shared} {K : Frag} {x C D L f g : Addr} {h₀ : Heap} {m : Str → Option Value} {ox : Obj} {od : Option Obj}
end PySem.W
namespace L2
open PySem PySem.Spec PyProof.Rows
section
variable {X : Cx} {CX : CXT} {k : Nat} {f C : Addr} {fd : FuncData} {ps : List Str} {sp : Sp} {pins : List (Addr × Obj)} {σ : St} {H : Hp} {s : Shared} {ta tb : TE}
end
end L2
namespace Sim
open PySem PySem.Spec PyProof.Rows L2 Evl LamX LamF NdefX
end Sim

/-! reversed; values that are an int or a text -/
namespace Sim
open PySem PySem.Spec PyProof.Rows L2 Evl
section
variable {K : PySem.W.Frag} {σ : L2.St} {G0 H0 G H G2 H2 W : Hp} {ls : List Addr} {cs : Cs} {ta : TA} {te : TE} {α β : Type} {R : Rep α} {D : Ends} {tu tz : TS} {g : TG}
end
end Sim

/-! a def that hands back a lambda: its function, told of the data heap -/
namespace Sim
open PySem PySem.Spec PyProof.Rows L2 Evl LamX LamF NdefX
section
variable {P : Program} {w : World} {K : PySem.W.Frag} {mg : Str → Option Value} {base : Heap} {CX : CXT} {k j : Nat} {f Pt : Addr} {fd : FuncData} {ps fr : List Str} {q : Str} {lp : Arguments} {lb : Expr} {lsc : Scope} {ws : List V → List V} {tb : Cs}
end
end Sim

/-! askers asked where nothing is raised; their cell at any place -/
namespace Sim
open PySem PySem.Spec PyProof.Rows L2 Evl LamX LamF NdefX
section
variable {P : Program} {w : World} {K : PySem.W.Frag} {mg : Str → Option Value} {base : Heap} {k : Nat} {κ : Type} {ci : κ → Cs} {G0 H0 G H G2 H2 Gq Hq : Hp} {ls : List Addr} {cs csq : Cs} {fk : Addr} {σ : L2.St}
end
end Sim

/-! a lambda whose body asks its own parameter -/
namespace LamF
open PySem PySem.Spec PyProof.Rows L2 LamX NdefX
section
variable {CX : CXT} {P : Program} {w : World} {K : PySem.W.Frag} {mg : Str → Option Value} {base : Heap} {N ps fr : List Str} {F : LF} {f : Addr} {k i : Nat} {x : Str} {e : Expr} {es : List Expr} {p pos : Pos} {us : List V}
end
end LamF

/-! what asks in a lambda's body -/
namespace Sim
open PySem PySem.Spec PyProof.Rows L2 Evl LamX LamF NdefX
section
variable {P : Program} {w : World} {K : PySem.W.Frag} {mg : Str → Option Value} {base : Heap} {N ps fr : List Str} {F : LF} {f fk : Addr} {k i jn : Nat} {us : List V} {G G2 H H2 : Hp} {κ : Type} {ci : κ → Cs} {σ : L2.St}
end
end Sim

/-! a def called at the slots, opened; a global name as data -/
namespace Sim
open PySem PySem.Spec PyProof.Rows L2 Evl
section
variable {σ : L2.St} {G W H : Hp} {α : Type} {R : Rep α}
end
section
variable {K : PySem.W.Frag} {C : Addr} {σ : L2.St} {G0 H0 G H : Hp} {ls : List Addr} {cs : Cs} {X : XK} {α β δ κ ι : Type} {R : Rep ι} {S : Rep β} {S2 : Rep δ} {B : Rep κ} {ns : List Str}
end
end Sim

set_option maxHeartbeats 2000000
/-! in: data in a list, own objects in a list; dicts compared; tuples of several parts -/
namespace GQ
open PySem PySem.SeqAt
open AutoSeq1 (wpAny_loadPart')
open MeetsSeq MeetsSeq2 MeetsSeq3 SeqRoads2
section
variable {prog : Program} {w : World} {A : Around} {R : Result → Shared → Prop}
end
section
variable {prog : Program} {w : World} {A : Around} {E : Value → Shared → Prop} {s : Shared}
end
end GQ
namespace L2
open PySem PySem.Spec PyProof.Rows SlX
section
variable {X : Cx} {k : Nat} {f C : Addr} {fd : FuncData} {ps : List Str} {sp : Sp} {pins : List (Addr × Obj)} {σ : St} {H : Hp} {s : Shared}
end
end L2

set_option maxHeartbeats 2000000
/-! the same, told by mirrors -/
namespace L2
open PySem PySem.Spec PyProof.Rows SlX
end L2

set_option maxHeartbeats 2000000
namespace Sim
open PySem PySem.Spec PyProof.Rows L2 Evl SlX
section
variable {K : PySem.W.Frag} {C : Addr} {σ : L2.St} {G0 H0 G H G2 H2 W Gn Wn : Hp} {ls : List Addr} {cs : Cs} {l : Addr} {ta tb tc tl te ti tk : TE} {tt : TT} {α β δ κ ι γ : Type} {R : Rep α} {S : Rep β} {T : Rep γ} {A : AR ι}
/-! ### what a value stands for is one thing -/
/-! ### x in xs of own objects -/
/-! ### x in xs of data -/
/-! ### dicts of whole numbers compared -/
/-! ### tuples of several parts -/
/-! ### an item of a list cell -/
/-! ### {k: v for k in ks} -/
end
end Sim

/-! what a call gives is new: lists of dicts that are cleared later -/
namespace Sim
open PySem PySem.Spec PyProof.Rows L2 Evl
section
variable {K : PySem.W.Frag} {σ : L2.St} {G0 H0 G H G2 H2 W Gw Hw : Hp} {ls : List Addr} {cs cs0 : Cs} {l : Addr} {te : TE} {α β κ γ : Type} {R : Rep α} {S : Rep β} {D : Ends} {tz : TS}
theorem E.ws {m : Option α} (sc : R.Sc) (e : Ex G W) (h : E te σ G W R m) : E te σ W W R m := fun x hx H e1 e2 Q q =>
  h x hx H (e.trans e1) e1 Q fun v H2 G2 u r => q v H2 W ⟨Ex.refl _, e1.trans u.hh, u.hh, fun _ _ z => z⟩ (sc r)
/-- cells that stay as they are -/
def cEq (o : HO) : CP := ⟨fun _ o' => o' = o, fun _ h => h⟩
def Fixed (G : Hp) (cs cs' : Cs) : Prop := Paired (fun (c c' : Addr × CP) => c.1 = c'.1 ∧ ∃ o, c'.2 = cEq o ∧ c.2.p G o) cs cs'
theorem Fixed.map : ∀ {cs cs' : Cs}, Fixed G cs cs' → cs'.map (·.1) = cs.map (·.1)
  | _, _, .nil => rfl
  | _, _, .cons h t => by rw [List.map_cons, List.map_cons, h.1, Fixed.map t]
theorem Fixed.sc {cs cs' : Cs} (F : Fixed G cs cs') : ∀ c ∈ cs', ∀ o, c.2.p G2 o → c.2.p Gw o := by
  induction F with
  | nil => intro c hc; cases hc
  | cons h t ih =>
    intro c hc o ho
    rcases List.mem_cons.mp hc with rfl | hc
    · obtain ⟨_, o2, e, _⟩ := h
      rw [e] at ho ⊢
      exact ho
    · exact ih c hc o ho
end
section
variable {K : PySem.W.Frag} {σ : L2.St} {G0 H0 G H G2 H2 W : Hp} {ls : List Addr} {cs : Cs} {ta : TA} {α ι : Type} {R : Rep α} {A : AR ι}
end
end Sim

set_option maxHeartbeats 2000000
/-! name = {k: v for ..}: the name is set before the block goes -/
namespace L2
open PySem PySem.Spec PyProof.Rows
open PySem.Calls
section
variable {X : Cx}
end
end L2
namespace Sim
open PySem PySem.Spec PyProof.Rows L2 Evl SlX
section
variable {K : PySem.W.Frag} {C : Addr} {α : Type} {R : Rep α}
end
end Sim

/-! the hook over any choice of addresses; addresses reached, found by marks in one number (no dedup of lists) -/
namespace Sim
open PySem PySem.Spec PyProof.Rows L2 Evl LamX LamF NdefX
end Sim

set_option maxHeartbeats 2000000
/-! a method with defaults, called with all its arguments -/
namespace Sim
open PySem PySem.Spec PyProof.Rows L2 Evl
end Sim

set_option maxHeartbeats 2000000
/-! cells read as data by a call, and taken out of the data again behind it: what the call gave does not lean on them -/
namespace Sim
open PySem PySem.Spec PyProof.Rows L2 Evl SlX
section
variable {D : List Addr} {W Z G G0 H0 H : Hp} {ls : List Addr} {cs : Cs} {σ : L2.St} {te : TE} {α β : Type} {R : Rep α} {S : Rep β} {κ : Type}
/-- without what stands at D -/
def rmL (D : List Addr) (G : Hp) : Hp := fun a => if a ∈ D then none else G a
/-- with what W has at D -/
def adL (D : List Addr) (W G : Hp) : Hp := fun a => if a ∈ D then W a else G a
theorem rm_out {a : Addr} (h : a ∉ D) : rmL D G a = G a := if_neg h
theorem rm_of {a : Addr} {o : HO} (h : G a = some o) (hn : a ∉ D) : rmL D G a = some o := by rw [rm_out hn, h]
/-- the value leans on nothing at D -/
def Off (D : List Addr) (W Z : Hp) (R : Rep α) (x : α) : Prop := ∀ (G : Hp) (v : V), Ex Z G → (∀ a ∈ D, G a = W a) → R.r G v x → R.r (rmL D G) v x
theorem Off.sc (h : R.Sc) (x : α) : Off D W Z R x := fun _ _ _ _ r => h r
/-- a value made while the cells at D were data: without them again -/
theorem E.off {m : Option α} (hD : ∀ a ∈ D, G a = none) (hW : ∀ a ∈ D, W a ≠ none) (ho : ∀ x, m = some x → Off D W (adL D W G) R x) (h : E te σ (adL D W G) W R m) : E te σ G W R m := fun x hx H e e' Q q => by
  refine h x hx H (fun a o ha => ?_) e' Q fun v H2 G2 u r => q v H2 (rmL D G2) ⟨fun a o ha => ?_, fun a o ha => ?_, u.hh, fun a h1 h2 => ?_⟩ (ho x hx G2 v u.gg (fun a ha => ?_) r)
  · unfold adL at ha
    split at ha
    · exact e' a o ha
    · exact e a o ha
  · have hn : a ∉ D := fun z => by rw [hD a z] at ha; cases ha
    exact rm_of (u.gg a o (by unfold adL; rw [if_neg hn]; exact ha)) hn
  · unfold rmL at ha
    split at ha
    · cases ha
    · exact u.gh a o ha
  · unfold rmL
    split
    · rfl
    · rename_i hn
      exact u.nw a h1 (by unfold adL; rw [if_neg hn]; exact h2)
  · cases q : W a with
    | none => exact absurd q (hW a ha)
    | some o => exact u.gg a o (by unfold adL; rw [if_pos ha]; exact q)
/-! ### kinds of values -/
theorem Off.m [DecidableEq κ] {kf : κ → Key} {d : List (κ × α)} (hD : ∀ a ∈ D, ∀ ws, W a ≠ some (.dK ws)) (hs : R.Sc) : Off D W Z (rM kf R) d := fun G v hZ hG ⟨a, ws, h1, h2, h3⟩ => by
  have hn : a ∉ D := fun z => hD a z ws (by rw [← hG a z]; exact h2)
  exact ⟨a, ws, h1, rm_of h2 hn, Paired.mapP h3 fun _ _ h => ⟨h.1, hs h.2⟩⟩
theorem pr_both {P : V → α → Prop} {Q : V → β → Prop} : ∀ {vs : List V} {xs : List α} {ys : List β}, Paired P vs xs → Paired Q vs ys → xs ≠ [] → ∃ v x y, P v x ∧ Q v y ∧ x ∈ xs ∧ y ∈ ys
  | _, _, _, .nil, .nil, h => absurd rfl h
  | _, _, _, .cons h1 t1, .cons h2 t2, _ => ⟨_, _, _, h1, h2, List.mem_cons_self .., List.mem_cons_self ..⟩
/-- no value stands for both -/
def Dsj (R : Rep α) (S : Rep β) : Prop := ∀ {G : Hp} {v : V} {x : α} {y : β}, R.r G v x → S.r G v y → False
/-- a list that is not empty, of things unlike those that the lists at D hold -/
theorem Off.l {xs : List α} (hD : ∀ a ∈ D, ∀ vs, W a = some (.lst vs) → ∃ ys : List β, Paired (S.r Z) vs ys) (hd : Dsj R S) (hne : xs ≠ []) (ho : ∀ x ∈ xs, Off D W Z R x) : Off D W Z (rL R) xs := fun G v hZ hG ⟨a, vs, h1, h2, h3⟩ => by
  have hn : a ∉ D := fun z => by
    obtain ⟨ys, k⟩ := hD a z vs (by rw [← hG a z]; exact h2)
    obtain ⟨v, x, y, r1, r2, _, _⟩ := pr_both h3 (Paired.mapP k fun _ _ => S.mono hZ) hne
    exact hd r1 r2
  have key : ∀ {vs : List V} {xs : List α}, Paired (R.r G) vs xs → (∀ x ∈ xs, Off D W Z R x) → Paired (R.r (rmL D G)) vs xs := by
    intro vs xs h
    induction h with
    | nil => intro _; exact .nil
    | cons h t ih => intro ho; exact .cons (ho _ (List.mem_cons_self ..) G _ hZ hG h) (ih fun x hx => ho x (List.mem_cons_of_mem _ hx))
  exact ⟨a, vs, h1, rm_of h2 hn, key h3 ho⟩
theorem Off.o {x : Option α} (h : ∀ y, x = some y → Off D W Z R y) : Off D W Z (rO R) x := fun G v hZ hG r => by
  cases x with
  | none => exact r
  | some y => exact h y rfl G v hZ hG r
def OffP (D : List Addr) (W Z : Hp) (p : Pd) : Prop := ∀ (G : Hp) (v : V), Ex Z G → (∀ a ∈ D, G a = W a) → p.p G v → p.p (rmL D G) v
theorem Off.obj {C : Addr} {ns : List Str} {fl : α → List Pd} {x : α} (hD : ∀ a ∈ D, ∀ dx fs, W a ≠ some (.ins C dx fs)) (hp : ∀ p ∈ fl x, OffP D W Z p) : Off D W Z (rObj C ns fl) x := fun G v hZ hG ⟨a, dx, fs, h1, h2, h3, h4⟩ => by
  have hn : a ∉ D := fun z => hD a z dx fs (by rw [← hG a z]; exact h2)
  have key : ∀ {vs : List V} {ps : List Pd}, Paired (fun v (q : Pd) => q.p G v) vs ps → (∀ p ∈ ps, OffP D W Z p) → Paired (fun v (q : Pd) => q.p (rmL D G) v) vs ps := by
    intro vs ps h
    induction h with
    | nil => intro _; exact .nil
    | cons h t ih => intro ho; exact .cons (ho _ (List.mem_cons_self ..) G _ hZ hG h) (ih fun x hx => ho x (List.mem_cons_of_mem _ hx))
  exact ⟨a, dx, fs, h1, rm_of h2 hn, h3, key h4 hp⟩
theorem Dsj.l {C : Addr} {fl : β → Ps} : Dsj (rL R) (rSl C fl) := fun ⟨a, vs, h1, h2, _⟩ ⟨b, dx, us, k1, k2, _⟩ => by
  rw [h1] at k1
  cases k1
  rw [h2] at k2
  unfold SlO at k2
  cases k2
theorem Dsj.i {C : Addr} {fl : β → Ps} : Dsj rI (rSl C fl) := fun {_ v x _} h ⟨b, dx, us, k1, _⟩ => by
  have h : v = .int x := h
  rw [h] at k1
  cases k1
theorem Dsj.b {C : Addr} {fl : β → Ps} : Dsj rB (rSl C fl) := fun {_ v x _} h ⟨b, dx, us, k1, _⟩ => by
  have h : v = .bl x := h
  rw [h] at k1
  cases k1
theorem Dsj.o {C : Addr} {fl : β → Ps} (hd : Dsj R (rSl C fl)) : Dsj (rO R) (rSl C fl) := fun {_ v x _} h k => by
  cases x with
  | none =>
    obtain ⟨b, dx, us, k1, _⟩ := k
    have h : v = .non := h
    rw [h] at k1
    cases k1
  | some y => exact hd h k
end
end Sim

set_option maxHeartbeats 2000000
/-! an object that changes, with a list of its own: made, called, read -/
namespace Sim
open PySem PySem.Spec PyProof.Rows L2 Evl SlX
section
variable {K : PySem.W.Frag} {C C2 : Addr} {σ : L2.St} {G0 H0 G H G2 H2 W : Hp} {ls : List Addr} {cs : Cs} {l p : Addr} {ta : TA} {te : TE} {X : XK} {α β κ ι ρ : Type} {R : Rep α} {S : Rep β} {B : Rep κ} {A : AR ι} {D : Ends} {tz : TS} {ns : List Str}
section
variable {i j : Nat} {ps : List Pd} {ys : List κ}
end
end
end Sim

set_option maxHeartbeats 2000000
/-! dicts of data compared; tuples that may be a def's default; an object made with its default -/
namespace L2
open PySem PySem.Spec PyProof.Rows SlX
section
variable {K : PySem.W.Frag} {H : Hp}
end
end L2
namespace Sim
open PySem PySem.Spec PyProof.Rows L2 Evl SlX
section
variable {K : PySem.W.Frag} {C : Addr} {σ : L2.St} {G0 H0 G H G2 H2 W : Hp} {ls : List Addr} {cs : Cs} {l p : Addr} {ta : TA} {te tl : TE} {X : XK} {α β κ ι ρ : Type} {R : Rep α} {S : Rep β} {B : Rep κ} {A : AR ι} {D : Ends} {tz : TS} {ns : List Str}
/-! ### dicts of data -/
/-! ### tuples that may stand among a def's defaults -/
/-! ### a method with its default left out -/
end
end Sim

set_option maxHeartbeats 2000000
/-! objects told by some of their attributes; an object with three new lists of texts (an outlook) -/
namespace Sim
open PySem PySem.Spec PyProof.Rows L2 Evl SlX
section
variable {K : PySem.W.Frag} {C : Addr} {σ : L2.St} {G0 H0 G H G2 H2 W Z : Hp} {D : List Addr} {ls : List Addr} {cs : Cs} {l p x : Addr} {ta : TA} {te to : TE} {X : XK} {α β γ κ ι ρ : Type} {R : Rep α} {S : Rep β} {T : Rep γ} {A : AR ι} {ns all nw : List Str} {fl : α → List (Str × Pd)}
/-! ### all cells become data -/
def frz (G H : Hp) (cs : Cs) : Hp := fun a => if a ∈ cs.map (·.1) then H a else G a
/-! ### the outlook's shape -/
section
variable {α0 α1 : Type} {S0 : Rep α0} {S1 : Rep α1} {g0 : β → α0} {g1 g2 : β → α1} {u1 u2 u3 : β → List Str} {N : Addr → Prop} {f : ι → Option β} {mi : Option ι}
end

/-! ### a paper and a list of texts read as data -/
def NotIt (D : List Addr) (W Z : Hp) (R : Rep α) : Prop := ∀ a ∈ D, ∀ vs, W a = some (.lst vs) → ∀ {G' : Hp} {v : V} {x : α}, v ∈ vs → Ex Z G' → R.r G' v x → False
theorem Off.l2 {xs : List α} (hD : NotIt D W Z R) (hne : xs ≠ []) (ho : ∀ x ∈ xs, Off D W Z R x) : Off D W Z (rL R) xs := fun G v hZ hG ⟨a, vs, h1, h2, h3⟩ => by
  have hn : a ∉ D := fun z => by
    cases h3 with
    | nil => exact hne rfl
    | cons h t => exact hD a z _ (by rw [← hG a z]; exact h2) (List.mem_cons_self ..) hZ h
  have key : ∀ {vs : List V} {xs : List α}, Paired (R.r G) vs xs → (∀ x ∈ xs, Off D W Z R x) → Paired (R.r (rmL D G)) vs xs := by
    intro vs xs h
    induction h with
    | nil => intro _; exact .nil
    | cons h t ih => intro ho; exact .cons (ho _ (List.mem_cons_self ..) G _ hZ hG h) (ih fun x hx => ho x (List.mem_cons_of_mem _ hx))
  exact ⟨a, vs, h1, rm_of h2 hn, key h3 ho⟩
theorem pr_mem {P : V → β → Prop} : ∀ {vs : List V} {ys : List β} {v : V}, Paired P vs ys → v ∈ vs → ∃ y, P v y
  | _, _, _, .cons h t, hm => by
    rcases List.mem_cons.mp hm with rfl | hm
    · exact ⟨_, h⟩
    · exact pr_mem t hm
/-- the lists at D hold what B is, or texts -/
def Lsts (D : List Addr) (W Z : Hp) (B : Rep κ) : Prop := ∀ a ∈ D, ∀ vs, W a = some (.lst vs) → (∃ ys : List κ, Paired (B.r Z) vs ys) ∨ ∃ ys : List Str, Paired (rS.r Z) vs ys
theorem Lsts.not {B : Rep κ} (h : Lsts D W Z B) (d1 : Dsj R B) (d2 : Dsj R rS) : NotIt D W Z R := fun a ha vs e {G' v x} hm hZ r => by
  rcases h a ha vs e with ⟨ys, k⟩ | ⟨ys, k⟩
  · obtain ⟨y, hy⟩ := pr_mem k hm
    exact d1 r (B.mono hZ hy)
  · obtain ⟨y, hy⟩ := pr_mem k hm
    exact d2 r (Rep.mono _ hZ hy)
section
variable {q : Addr} {i j k : Nat} {C2 : Addr} {B : Rep κ} {ys : List κ} {xs : List Str} {ps : List Pd}
end
end
end Sim

set_option maxHeartbeats 4000000
/-! an __init__ whose first statement is super().__init__(..), with own captured names -/
namespace Sim
open PySem PySem.Spec PyProof.Rows L2 PySem.W PySem.Calls NdefX
section
variable {M : Model} {A : Around} {E : Value → Shared → Prop} {s₀ s : Shared} {m cm : Str → Option Value} {env : Env} {own : List (Str × Addr)}
end
section
variable {M : Model} {A : Around} {E : Value → Shared → Prop} {s : Shared}
end
section
variable {CX : CXT} {P : Program} {w : World} {K : Frag} {mg : Str → Option Value} {base : Heap} {N ps psg : List Str} {F : NF} {C D f g : Addr} {fd fdg : FuncData} {k : Nat} {sp spg : Sp} {e : Expr} {es : List Expr} {rest : List Stmt} {p0 p1 p2 p3 p4 : Pos} {pl : Sem Bool}
end
end Sim

set_option maxHeartbeats 2000000
/-! list(reversed(a list)) -/
namespace RT
open PySem PySem.Spec PyProof.Rows
section
variable {prog : Program} {w : World} {A : Around} {E : Value → Shared → Prop} {s : Shared}
end
section
variable {prog : Program} {w : World} {A : Around} {E : Value → Shared → Prop} {s : Shared}
end
end RT
namespace L2
open PySem PySem.Spec PyProof.Rows RT
section
variable {X : Cx}
end
end L2
namespace Sim
open PySem PySem.Spec PyProof.Rows L2 Evl SlX
section
variable {K : PySem.W.Frag} {σ : L2.St} {G H W : Hp} {te : TE} {α : Type} {R : Rep α}
end
end Sim

set_option maxHeartbeats 2000000
/-! a dict walked while it is locked; dicts read whether they are locked or not -/
namespace Sim
open PySem PySem.Spec PyProof.Rows L2 Evl SlX
section
variable {K : PySem.W.Frag} {C : Addr} {σ : L2.St} {G0 H0 G H G2 H2 W : Hp} {ls : List Addr} {cs : Cs} {l p a : Addr} {ta : TA} {te td ti tx : TE} {X : XK} {α β κ ι ρ : Type} {R : Rep α} {S : Rep β} {D : Ends} {tz : TS} {ns all : List Str} {kf : κ → Key} {od : Obj} {ws : List (Key × V)}
section
variable [DecidableEq κ]
end
/-! ### locking keeps what is known -/
end
end Sim

/-! a | b, a of an own class, b of one, too, or a function; pairs of classes; a lambda that asks -/
namespace PySem.W
open PySem PySem.Spec PyProof.Rows PySem.Calls
variable {prog : Program} {w : World} {A : Around} {E : Value → Shared → Prop} {s : Shared} {K : Frag} {x C L f : Addr} {h₀ : Heap} {m : Str → Option Value} {ox : Obj} {od : Option Obj} {T : String}
end PySem.W
namespace L2
open PySem PySem.Spec PyProof.Rows
section
variable {X : Cx} {CX : CXT} {k : Nat} {f C : Addr} {fd : FuncData} {ps : List Str} {sp : Sp} {pins : List (Addr × Obj)} {σ : St} {H : Hp} {s : Shared} {ta tb : TE}
end
end L2
namespace Sim
open PySem PySem.Spec PyProof.Rows L2 Evl LamX LamF NdefX
section
variable {δ γ : Type} {cn : List Str} {nm : String} {D : Str} {K : PySem.W.Frag} {S : Rep δ} {T : Rep γ} {ob : δ → Bool} {σ : L2.St} {G W : Hp} {ta tb te : TE} {ma mb m : Option δ}
end
/-! ### one of two kinds -/
/-! ### lambda ask: ask(nm), as a side -/
section
variable {P : Program} {w : World} {K : PySem.W.Frag} {mg : Str → Option Value} {base : Heap} {fr ps N : List Str} {f : Addr} {F : LF} {G : Hp}
end
end Sim

/-! a dict lent to a making; a reading that may raise where nothing is raised -/
namespace Sim
open PySem PySem.Spec PyProof.Rows L2 Evl LamX LamF NdefX
section
variable {σ : L2.St} {G0 H0 G H G1 H1 W : Hp} {ls : List Addr} {cs : Cs} {l : Addr} {cp0 : CP} {te : TE} {α β ι κ : Type} {R : Rep α} {cp : β → CP} {C : Addr} {A : AR ι} {ns : List Str} {K : PySem.W.Frag} {T : Rep β}
end
end Sim

/-! dict(x), x a list (or a plain tuple) of pairs -/
namespace L2
open PySem PySem.Spec PyProof.Rows
section
variable {X : Cx} {pins : List (Addr × Obj)} {σ : St} {H : Hp} {s : Shared}
end
end L2
namespace Sim
open PySem PySem.Spec PyProof.Rows L2 Evl
section
variable {σ : L2.St} {G0 H0 G H W : Hp} {ls : List Addr} {cs : Cs} {l : Addr} {te : TE} {κ α : Type} [DecidableEq κ] {kf : κ → Key} {Sk : Rep κ} {R : Rep α} {K : PySem.W.Frag}
end
end Sim

/-! sides that are called with an asker whose list of asks is known -/
namespace Sim
open PySem PySem.Spec PyProof.Rows L2 Evl LamX LamF NdefX
abbrev Ql : Type := List (Str × Int)
abbrev AskQ : Type := Ql → Str → Option ((Xn ⊕ Int) × Ql)
def ciQ (la : Addr) : Ql → Cs := fun ys => [(la, cL (rP rS rI) ys)]
/-- the list of what was asked stands at this address -/
def rLa (K : PySem.W.Frag) : Rep Addr := rAt K rA "asks"
section
variable (P : Program) (w : World) (K : PySem.W.Frag) (mg : Str → Option Value) (base : Heap) (j : Nat)
def PSdq {ω : Type} (rO : Rep ω) (sem : AskQ → ω → Ql → Option ((Xn ⊕ Int) × Ql)) (G0 : Hp) : Sp := fun vs H Q E => ∃ (la : Addr) (ask : AskQ) (G : Hp) (fk : Addr) (o : ω) (s : Ql) (r : Xn ⊕ Int) (s' : Ql),
  vs = [.ref fk] ∧ Ex G0 G ∧ ((rAt K rO "order").r G (.ref fk) o ∧ (rLa K).r G (.ref fk) la) ∧ AskX P w K mg base j G fk (ciQ la) ask ∧ Wd G H (ciQ la s) ∧ sem ask o s = some (r, s') ∧
  (∀ e, r = .inl e → ∀ d H2 G2, Fr G H G2 H2 ((ciQ la s).map (·.1)) → Wd G2 H2 (ciQ la s') → Xat K G2 e d → E (.ref (He.ga K e.cls)) (some d) H2) ∧ ∀ x, r = .inr x → ∀ H2 G2, Fr G H G2 H2 ((ciQ la s).map (·.1)) → Wd G2 H2 (ciQ la s') → Q (.int x) H2
structure SideOkq {ω : Type} (rO : Rep ω) (k : Nat) (G : Hp) (f : Addr) (sem : AskQ → ω → Ql → Option ((Xn ⊕ Int) × Ql)) : Prop where
  cb : Cbk K G f
  ok : CalOk P w K mg base (L2.CX P w) k f (PSdq P w K mg base j rO sem G)
end
section
variable {P : Program} {w : World} {K : PySem.W.Frag} {mg : Str → Option Value} {base : Heap} {j k kk : Nat} {ω : Type} {G0 H0 G H G2 H2 : Hp} {ls : List Addr} {cs : Cs} {f f0 fk C la : Addr} {rO : Rep ω} {σ : L2.St} {fd : FuncData} {ps : List Str}
variable {sem : AskQ → ω → Ql → Option ((Xn ⊕ Int) × Ql)}
theorem SideOkq.mono (e : Ex G G2) (h : SideOkq P w K mg base j rO k G f sem) : SideOkq P w K mg base j rO k G2 f sem :=
  ⟨cbk_mono e h.cb, h.ok.imp fun vs H Q E ⟨la, ask, G, fk, o, s, r, s', a1, a2, a3⟩ => ⟨la, ask, G, fk, o, s, r, s', a1, e.trans a2, a3⟩⟩
end
end Sim

/-! a comprehension that asks; the truth of a list -/
namespace Sim
open PySem PySem.Spec PyProof.Rows L2 Evl LamX LamF NdefX
section
variable {α γ κ : Type} {R : Rep α} {T : Rep γ} {K : PySem.W.Frag} {σ : L2.St} {G0 H0 G H W : Hp} {ls : List Addr} {cs : Cs} {tl te : TE} {j : Nat} {Q : VK}
end
end Sim

/-! a thing asked within a comprehension; slotted objects below laid cells -/
namespace LamF
open PySem PySem.Spec PyProof.Rows L2
end LamF
namespace Sim
open PySem PySem.Spec PyProof.Rows L2 Evl LamX LamF NdefX
section
variable {P : Program} {w : World} {K : PySem.W.Frag} {mg : Str → Option Value} {base : Heap} {σ : L2.St} {k : Nat} {G0 H0 G H G2 H2 : Hp} {ls : List Addr} {cs : Cs} {f : Addr}
end
end Sim

set_option maxHeartbeats 4000000
/-! super().m(..) at any place of an own class's def -/
namespace Sim
open PySem PySem.Spec PyProof.Rows L2 PySem.W PySem.Calls NdefX
section
variable {X : Cx} {c : Code} {st : Stmt} {rest : List Stmt} {t u : TS} {te : TE} {e : Expr}
end
section
variable {CX CX1 : CXT} {P : Program} {w : World} {K : Frag} {mg : Str → Option Value} {base : Heap} {N ps psg : List Str} {F : NF} {C D f g : Addr} {fd fdg : FuncData} {k : Nat} {sp spg : Sp} {e : Expr} {es : List Expr} {nm : Str} {p0 p1 p2 p3 : Pos} {pl : Sem Bool} {A : Around} {outer : List Env} {s0 : Shared} {H0 : Hp} {E : XK} {c : Code} {ta : TA}
end
end Sim

/-! list.extend by a list of data -/
namespace Sim
open PySem PySem.Spec PyProof.Rows L2 Evl
section
variable {σ : L2.St} {G0 H0 G H : Hp} {ls : List Addr} {cs : Cs} {l : Addr} {te : TE} {tz : TS} {D : Ends} {α : Type} {R : Rep α} {K : PySem.W.Frag}
end
end Sim

/-! an object made with a lent list and with effects in its arguments -/
namespace Sim
open PySem L2 Evl
section
variable {K : PySem.W.Frag} {C : Addr} {σ : L2.St} {G0 H0 G H : Hp} {ls : List Addr} {cs : Cs} {l : Addr} {X : XK} {Q : VK} {α ι κ : Type} {A : AR ι}
end
end Sim

/-! a tuple whose object is told (no dict of its own): tuple(list) makes one, dict(tuple) reads it -/
namespace L2
open PySem PySem.Spec PyProof.Rows
section
variable {X : Cx} {pins : List (Addr × Obj)} {σ : St} {H : Hp} {s : Shared}
end
end L2
namespace Sim
open PySem PySem.Spec PyProof.Rows L2 Evl
section
variable {σ : L2.St} {G0 H0 G H W : Hp} {ls : List Addr} {cs : Cs} {l : Addr} {te : TE} {κ α : Type} [DecidableEq κ] {kf : κ → Key} {Sk : Rep κ} {R : Rep α} {K : PySem.W.Frag}
end
end Sim

/-! a generator def called with keywords -/
namespace L2
open PySem PySem.Spec PyProof.Rows
section
variable {X : Cx} {k n : Nat} {f : Addr} {fd : FuncData} {ps ks : List Str} {sp : SpG} {E : XK} {x : Str} {p pos : Pos} {e : Expr} {es : List Expr} {kws : List Keyword} {t tk : TA} {g : List Value → List Value → List Value} {gV : List V → List V → List V}
end
end L2

/-! generators: if; the walk's lemmas; their promise -/
namespace L2
open PySem PySem.Spec PyProof.Rows GenW
end L2
namespace Sim
open PySem PySem.Spec PyProof.Rows L2 Evl
section
variable {K : PySem.W.Frag} {σ : L2.St} {G0 H0 G H G2 H2 W : Hp} {ls : List Addr} {cs : Cs} {l : Addr} {ta tb te tc : TE} {t : TT} {α β γ ι κ : Type} {R : Rep α} {S : Rep β} {A : AR ι} {D : GEnds} {ys : List V} {tu tv u : TGn}
end
section
variable {K : PySem.W.Frag} {C : Addr} {σ : L2.St} {G0 H0 G H G2 H2 : Hp} {ls : List Addr} {cs : Cs} {X : XK} {α κ ι : Type} {A : AR ι} {B : Rep κ} {ns : List Str}
end
end Sim

/-! a != b of an own class that has __eq__ alone -/
namespace L2
open PySem PySem.Spec PyProof.Rows
section
variable {X : Cx} {k : Nat} {f C : Addr} {fd : FuncData} {ps : List Str} {sp : Sp}
end
end L2
namespace Sim
open PySem PySem.Spec PyProof.Rows L2 Evl
end Sim

/-! told tuples: read in one way, and they stay below laid cells -/
namespace Sim
open PySem PySem.Spec PyProof.Rows L2 Evl
end Sim

/-! a, b = x, y; a pair of new dicts that a call gave, cleared later -/
namespace Sim
open PySem PySem.Spec PyProof.Rows L2 Evl
section
variable {K : PySem.W.Frag} {σ : L2.St} {G0 H0 G H G2 H2 W Gw Hw : Hp} {ls : List Addr} {cs cs0 : Cs} {l : Addr} {ta : TA} {α β κ ι : Type} {R : Rep α} {S : Rep β} {A : AR ι} {D : Ends} {tz : TS}
end
end Sim

/-! sorted(xs), xs a list of data that are alike -/
namespace Sim
open PySem PySem.Spec PySem.W PyProof.Rows L2 Evl
section
variable {K : PySem.W.Frag} {α : Type} {R : Rep α}
end
/-! ### what is alike -/
end Sim

/-! calls with keywords that may raise; a generator drained that may raise; a loop over a call that may raise -/
namespace L2
open PySem PySem.Spec PyProof.Rows
section
variable {X : Cx} {CX : CXT} {k n : Nat} {f : Addr} {fd : FuncData} {ps ks : List Str} {sp : Sp} {E : St → XK} {x : Str} {p pos : Pos} {e : Expr} {es : List Expr} {kws : List Keyword} {t tk : TA} {g : List Value → List Value → List Value} {gV : List V → List V → List V}
end
end L2
namespace Sim
open PySem PySem.Spec PyProof.Rows L2 Evl
section
variable {K : PySem.W.Frag} {σ : L2.St} {G0 H0 G H G2 H2 W : Hp} {ls : List Addr} {cs : Cs} {te : TE} {ta tk : TA} {α γ ι κ δ : Type} {R : Rep α} {T : Rep γ} {A : AR ι} {A2 : AR δ} {B : AR κ} {D : Ends} {n m' : Nat}
end
section
variable {K : PySem.W.Frag} {σ : L2.St} {G0 H0 G H G2 H2 W : Hp} {te : TE} {α β γ : Type} {R : Rep α} {S : Rep β} {T : Rep γ}
end
section
open PySem PySem.Spec PyProof.Rows L2 Evl LamX LamF NdefX
end
end Sim

/-! a changing object's method in an expression; a list of three new lists, written and cleared -/
namespace Sim
open PySem PySem.Spec PyProof.Rows L2 Evl SlX
section
variable {K : PySem.W.Frag} {C C2 : Addr} {σ : L2.St} {G0 H0 G H G2 H2 W : Hp} {ls : List Addr} {cs : Cs} {l p : Addr} {ta : TA} {te : TE} {X : XK} {α β κ ι ρ : Type} {R : Rep α} {S : Rep β} {B : Rep κ} {A : AR ι} {D : Ends} {tz : TS} {ns : List Str}
end
section
variable {K : PySem.W.Frag} {σ : L2.St} {G0 H0 G H G2 H2 W Gw Hw : Hp} {ls : List Addr} {cs cs0 : Cs} {l : Addr} {te t1 t2 t3 : TE} {ta : TA} {α β γ ι : Type} {R : Rep α} {R1 : Rep α} {R2 : Rep β} {R3 : Rep γ} {A : AR ι} {D : Ends} {tz : TS}
end
end Sim

/-! all cells read as data: a call that gives a number, a text or a truth value -/
namespace Sim
open PySem PySem.Spec PyProof.Rows L2 Evl
section
variable {K : PySem.W.Frag} {σ : L2.St} {G0 H0 G H : Hp} {ls : List Addr} {cs : Cs} {l p : Addr} {C : Addr} {ns : List String} {α β κ : Type} {B : Rep κ} {S : Rep β} {R : Rep α} {i j : Nat} {te : TE}
theorem all_G (w : Wo G0 H0 ls G H cs) : ∀ a ∈ cs.map (·.1), G a = none := fun a ha => by
  obtain ⟨c, hc, rfl⟩ := List.mem_map.mp ha
  exact (w.w.at_ c hc).1
theorem all_H (w : Wo G0 H0 ls G H cs) : ∀ a ∈ cs.map (·.1), H a ≠ none := fun a ha => by
  obtain ⟨c, hc, rfl⟩ := List.mem_map.mp ha
  obtain ⟨_, o, h, _⟩ := w.w.at_ c hc
  rw [h]
  simp
theorem E.all {m : Option α} (w : Wo G0 H0 ls G H cs) (sc : R.Sc) (h : E te σ (adL (cs.map (·.1)) H G) H R m) : E te σ G H R m := E.off (all_G w) (all_H w) (fun x _ => Off.sc sc x) h
end
end Sim

/-! a list lent to a def that gives a new list; lent to the making of an object with a list -/
namespace Sim
open PySem PySem.Spec PyProof.Rows L2 Evl SlX
section
variable {K : PySem.W.Frag} {C C2 : Addr} {σ : L2.St} {G0 H0 G H G2 H2 W : Hp} {ls : List Addr} {cs : Cs} {l p : Addr} {ta : TA} {te : TE} {X : XK} {α β κ ι ρ : Type} {R : Rep α} {S : Rep β} {B : Rep κ} {A : AR ι} {D : Ends} {tz : TS} {ns : List Str}
end
section
variable {K : PySem.W.Frag} {σ : L2.St} {G W : Hp} {l : Addr} {κ γ ι : Type} {T : Rep γ} {A : AR ι}
end
end Sim

/-! a static method with a star parameter -/
namespace L2
open PySem PySem.Spec PyProof.Rows
section
variable {X : Cx} {CX : CXT} {k : Nat} {f C p : Addr} {fd : FuncData} {ps : List Str} {sp : Sp} {E : St → XK} {x m : Str} {pos apos : Pos} {e o : Expr} {es : List Expr} {ta : TE} {t : TA}
variable {Ec : XK}
end
end L2
namespace Sim
open PySem PySem.Spec PyProof.Rows L2 Evl
section
variable {K : PySem.W.Frag} {σ : L2.St} {G H W : Hp} {ta t1 tr : TA} {te : TE} {α β γ : Type} {R : Rep α} {S : Rep β} {T : Rep γ} {C : Addr} {n : Nat}
end
end Sim

set_option maxHeartbeats 1000000
/-! a for over a generator: while the generator sleeps its consumer's frame changes. The context's s_0 is a ghost: made anew at each wake. -/
namespace GenF
open PySem PySem.Spec PyProof.Rows L2 GenW

/-- the generator's def, its call, the consumer's frame L, what is told of it -/
structure Gq where
  P : Program
  w : World
  K : PySem.W.Frag
  mg : Str → Option Value
  base : Heap
  N : List Str
  qual : Str
  scope : Scope
  f : Addr
  cd : Value
  A : Around
  outer : List Env
  E : XK
  pn : List (Addr × Obj)
  sc : Shared
  Hc : Hp
  L : Addr
  Rec : Heap → List Value → Prop
def Gq.cx (q : Gq) (s0 : Shared) (H0 : Hp) : Cx := gcxOf q.P q.w q.K q.mg q.base q.N q.qual q.scope q.f q.cd q.A q.outer s0 H0 q.E q.pn
def Gq.env (q : Gq) : Env := envOfC q.qual q.scope q.sc.heap.objs.size q.f q.cd
def Gq.n0 (q : Gq) : Nat := q.sc.heap.objs.size
def Sz (q : Gq) (s0 : Shared) : Prop := s0.heap.objs.size = q.sc.heap.objs.size
structure GqOk (q : Gq) : Prop where
  mem : q.L ∈ frs q.outer
  lt : q.L < q.n0
  frs : ∀ b ∈ frs q.outer, b < q.n0
  bsz : q.base.objs.size ≤ q.n0
  slots : ∀ (h h' : Heap) us, (∀ o, h.get? q.L = some o → ∃ sl, h'.get? q.L = some { o with slots := sl }) → q.Rec h us → q.Rec h' us
section
variable {q : Gq} {s0 s1 : Shared} {H0 H1 : Hp}
end

/-- the ghost of a segment that begins at s₀; ys is out -/
structure Gh (q : Gq) (s₀ : Shared) (ys : List V) (s0 : Shared) (H0 : Hp) : Prop where
  sz : Sz q s0
  hL : s0.heap.get? q.L = s₀.heap.get? q.L
  cu : Un (frs q.outer) [q.L] q.Hc H0 q.sc.heap s0.heap
  os : s0.os = q.sc.os
  tie : ∃ us, Vals ys us ∧ q.Rec s₀.heap us
def GI (q : Gq) (ip : List (Addr × Obj)) (s₀ : Shared) (ys : List V) (σ : L2.St) (H : Hp) (s : Shared) : Prop := ∃ s0 H0, Gh q s₀ ys s0 H0 ∧ Inv (q.cx s0 H0) ip σ H s
section
variable {q : Gq} {ip : List (Addr × Obj)} {s₀ s s' : Shared} {ys : List V} {σ : L2.St} {H H0 : Hp} {s0 : Shared} {x : V} {v : Value}
/-- L, up to slots -/
theorem Gh.slot (ok : GqOk q) (g : Gh q s₀ ys s0 H0) (I : Inv (q.cx s0 H0) ip σ H s) : ∀ o, s₀.heap.get? q.L = some o → ∃ sl, s.heap.get? q.L = some { o with slots := sl } := fun o e =>
  I.base.slot q.L o (g.hL.trans e) (I.ok.frf q.L ok.mem) ok.mem (fun z => by cases (show q.L ∈ ([] : List Addr) from z))
theorem Gh.tied (ok : GqOk q) (g : Gh q s₀ ys s0 H0) (I : Inv (q.cx s0 H0) ip σ H s) : ∃ us, Vals ys us ∧ q.Rec s.heap us := by
  obtain ⟨us, r, h⟩ := g.tie
  exact ⟨us, r, ok.slots _ _ us (g.slot ok I) h⟩
/-- from the call to here -/
theorem Gh.un (g : Gh q s₀ ys s0 H0) (I : Inv (q.cx s0 H0) ip σ H s) : Un (frs q.outer) [q.L] q.Hc H q.sc.heap s.heap :=
  g.cu.trans (Un.mono (fs := frs q.outer) (ex := []) I.base (fun _ z => z) fun _ z => by cases z)
end

/-! ### the protocol, statements -/
section
variable {q : Gq} {st : Stmt} {rest : List Stmt} {e : Expr} {yp pos : Pos} {te : TE}
/-! ### while -/
end
end GenF

set_option maxHeartbeats 1000000
/-! a generator def's promise to a for; the for that keeps the last item -/
namespace GenF
open PySem PySem.Spec PyProof.Rows L2 GenW

/-- the consumer may know this of a state of the run: from the call (s, H), within the segment from s₀ -/
structure Out (P : Program) (w : World) (outer : List Env) (H : Hp) (s : Shared) (L : Addr) (Rec : Heap → List Value → Prop) (s₀ : Shared) (ys : List V) (H1 : Hp) (s1 : Shared) : Prop where
  os : s1.os = s.os
  bare : AllBare s1.gens
  un : Un (frs outer) [L] H H1 s.heap s1.heap
  hok : HOk P w H1 s1.heap
  nL : H1 L = none
  slot : ∀ o, s₀.heap.get? L = some o → ∃ sl, s1.heap.get? L = some { o with slots := sl }
  tie : ∃ us, Vals ys us ∧ Rec s1.heap us
section
variable {q : Gq} {ip : List (Addr × Obj)} {s₀ s s' : Shared} {ys : List V} {σ : L2.St} {H : Hp}
theorem GI.out (ok : GqOk q) (h : GI q ip s₀ ys σ H s) : Out q.P q.w q.outer q.Hc q.sc q.L q.Rec s₀ ys H s := by
  obtain ⟨s0, H0, g, I⟩ := h
  refine ⟨I.os.trans g.os, I.bare, g.un I, I.hok, ?_, g.slot ok I, g.tied ok I⟩
  have hf : H0 q.L = none := I.ok.frf q.L ok.mem
  have hm := (I.ok.funs.mem ok.mem).2
  obtain ⟨o, ho, _⟩ := hm
  exact I.base.free q.L o ho hf (fun z => by cases (show q.L ∈ ([] : List Addr) from z))
end
end GenF

set_option maxHeartbeats 1000000
/-! for x in g(..): y = x -/
namespace GenF
open PySem PySem.Spec PyProof.Rows L2 GenW

theorem ns_fun {h : Heap} {a : Addr} {m m' : Str → Option Value} (x : h.Ns a m) (y : h.Ns a m') : m = m' := by
  obtain ⟨o, es, ep, e, d, _, f⟩ := x
  obtain ⟨o', es', ep', e', d', _, f'⟩ := y
  rw [e] at e'
  cases e'
  rw [d] at d'
  cases d'
  funext n
  rw [← f n, ← f' n]
section
variable {X : Cx} {pins : List (Addr × Obj)} {σ : L2.St} {H H1 : Hp} {s sc : Shared}
/-- a name's value told of the frame -/
theorem Inv.told {i : Nat} {x : Str} {v : V} {u : Value} {m : Str → Option Value} (I : Inv X pins σ H s) (hN : X.N.Nodup) (hi : X.N[i]? = some x) (hk : X.env.scope.names.lookup x = some .local) (hm : s.heap.Ns X.env.locals m) (e : m x = some u) (r : RelV v u) : Inv X pins (σ.set i (some v)) H s := by
  obtain ⟨m', hn, hl⟩ := id I.loc
  have hiσ : i < σ.length := by rw [I.len]; exact (List.getElem?_eq_some_iff.mp hi).1
  refine ⟨I.ok, I.os, I.bare, I.base, ⟨m', hn, fun j y v' e1 e2 e3 => ?_⟩, I.cell, I.free, I.freeC, I.pin, I.hok, by simpa using I.len⟩
  by_cases hj : j = i
  · subst hj
    rw [hi] at e1; cases e1
    rw [List.getElem?_set_self hiσ] at e2
    cases e2
    exact ⟨u, r, .inl ⟨hk, by rw [ns_fun hn hm]; exact e⟩⟩
  · rw [List.getElem?_set_ne (Ne.symm hj)] at e2
    exact hl j y v' e1 e2 e3
end
/-! ### the call -/
section
variable {X : Cx} {k : Nat} {f : Addr} {fd : FuncData} {ps : List Str} {sp : SpG} {dvs : List V} {ds : List Value} {x : Str} {p pos' : Pos} {E : XK}
/-! ### the loop -/
end
end GenF

/-! a for over a generator, told by data -/
namespace Sim
open PySem PySem.Spec PyProof.Rows L2 Evl
section
variable {K : PySem.W.Frag} {σ : L2.St} {G0 H0 G H : Hp} {ls : List Addr} {cs : Cs} {ta : TA} {α ι : Type} {R : Rep α} {A : AR ι} {D : Ends} {tz : TS}
end
end Sim

/-! f(.., lambda n: d[n]): the function asks a table, no state -/
namespace Sim
open PySem PySem.Spec PyProof.Rows L2 Evl LamX LamF NdefX
section
variable {P : Program} {w : World} {K : PySem.W.Frag} {mg : Str → Option Value} {base : Heap} {kk : Nat} {G G' : Hp} {f : Addr} {F : LF} {fr N : List Str} {vt : V} {tbl : List (Str × Int)} {x0 y0 : Str}
end
section
variable {X : Cx} {kk : Nat} {σ : L2.St} {G0 H0 G H : Hp} {ls : List Addr} {cs : Cs} {ta : TA} {ι α γ : Type} {A : AR ι} {R : Rep γ} {Q : VK}
end
end Sim

set_option maxHeartbeats 2000000
/-! a method that gives a new object that changes -/
namespace Sim
open PySem PySem.Spec PyProof.Rows L2 Evl SlX
section
variable {K : PySem.W.Frag} {C C2 : Addr} {σ : L2.St} {G0 H0 G H G2 H2 W : Hp} {ls : List Addr} {cs : Cs} {l p : Addr} {ta : TA} {to : TE} {X : XK} {α β κ ι ρ : Type} {R : Rep α} {S : Rep ρ} {B : Rep κ} {A : AR ι} {D : Ends} {tz : TS} {ns ns2 : List Str}
end
end Sim

/-! tuples of several unlike parts: their length -/
namespace Sim
open PySem PySem.Spec PyProof.Rows L2 Evl
end Sim

/-! tuples of several unlike parts: their length -/
namespace Sim
open PySem PySem.Spec PyProof.Rows L2 Evl
section
variable {K : PySem.W.Frag} {C C2 : Addr} {σ : L2.St} {G0 H0 G H G2 H2 W : Hp} {ls : List Addr} {cs : Cs} {l p : Addr} {ta : TA} {te : TE} {X : XK} {α β κ ι ρ : Type} {R : Rep α} {S : Rep β} {B : Rep κ} {A : AR ι} {ns : List Str}
end
end Sim

/-! an exception class without an own __init__: raised, and nothing else; a def called with its defaults -/
namespace Sim
open PySem PySem.Spec PyProof.Rows L2 Evl
section
variable {P : Program} {w : World} {K : PySem.W.Frag} {mg : Str → Option Value} {base : Heap}
end
end Sim

/-! a field of what a call gave -/
namespace Sim
open PySem PySem.Spec PyProof.Rows L2 Evl SlX
section
variable {K : PySem.W.Frag} {σ : L2.St} {G0 H0 G H : Hp} {ls : List Addr} {cs : Cs} {to : TE} {α β : Type} {S : Rep β} {C : Addr} {fl : α → List (Nat × Pd)} {Q : VK}
end
end Sim

set_option maxHeartbeats 2000000
/-! try: suite / finally: suite (the first one falls through or raises) -/
namespace L2
open PySem PySem.Spec PyProof.Rows
section
variable {X : Cx} {body : List Stmt} {f₀ : Stmt} {fs : List Stmt} {pos : Pos} {tb : WX → TS} {tf tfs : TS} {Wout : WX}
end
end L2

set_option maxHeartbeats 2000000
/-! groups of cells, lent or changed: what a method of an object with several parts that change promises -/
namespace Sim
open PySem PySem.Spec PyProof.Rows L2 Evl SlX
section
variable {K : PySem.W.Frag} {σ : L2.St} {G0 H0 G H G1 H1 G2 H2 W : Hp} {ls : List Addr} {cs cs0 : Cs} {l p C : Addr} {te ti tv : TE} {ta : TA} {α β γ κ ι ρ : Type} {R : Rep γ} {S : Rep β} {T : Rep γ} {B : Rep κ} {A : AR ι} {D : Ends} {tz : TS} {ns : List Str} {X : XK} {Q : VK}
/-! ### lent -/
/-! ### all of them read as data -/
/-! ### promises -/
variable {pa : α → Addr} {ci : α → ρ → Cs} {a : α} {r r' : ρ} {j : Nat} {ps : List Pd} {mi : Option ι} {i : ι} {me : Str}
/-! ### opened -/
/-! ### steps -/
end
end Sim

set_option maxHeartbeats 2000000
/-! sides that answer at any level of the thing asked -/
namespace Sim
open PySem PySem.Spec PyProof.Rows L2 Evl LamX LamF NdefX
section
variable (P : Program) (w : World) (K : PySem.W.Frag) (mg : Str → Option Value) (base : Heap)
end
end Sim

set_option maxHeartbeats 2000000
/-! more steps for objects with several parts that change -/
namespace Sim
open PySem PySem.Spec PyProof.Rows L2 Evl SlX
section
variable {K : PySem.W.Frag} {σ : L2.St} {G0 H0 G H G1 H1 G2 H2 W : Hp} {ls : List Addr} {cs cs0 cs2 : Cs} {l p C : Addr} {te ti tv : TE} {ta : TA} {α β γ κ ι ρ : Type} {R : Rep γ} {S : Rep β} {T : Rep γ} {B : Rep κ} {A : AR ι} {D : Ends} {tz tu : TS} {ns : List Str} {X : XK} {Q : VK} {g : TG}
end
end Sim

set_option maxHeartbeats 2000000
/-! a thing asked whose answering changes a group of cells -/
namespace Sim
open PySem PySem.Spec PyProof.Rows L2 Evl SlX LamX LamF NdefX
section
variable {P : Program} {w : World} {K : PySem.W.Frag} {mg : Str → Option Value} {base : Heap} {kl : Nat} {σ : L2.St} {G0 H0 G H G1 H1 G2 H2 W : Hp} {ls : List Addr} {cs cs0 cs2 : Cs} {l p C : Addr} {te ti tv : TE} {ta : TA} {α β γ κ ι ρ δ : Type} {R : Rep γ} {S : Rep β} {T : Rep γ} {B : Rep κ} {A : AR ι} {D : Ends} {tz tu : TS} {ns : List Str} {X : XK} {Q : VK}
variable {pa : α → δ} {ad : ι → δ} {ci : α → ρ → Cs} {a : α} {r r' : ρ} {i : ι}
end
end Sim

set_option maxHeartbeats 2000000
/-! groups of cells at the law's level -/
namespace Sim
open PySem PySem.Spec PyProof.Rows L2 Evl SlX
section
variable {K : PySem.W.Frag} {σ : L2.St} {G0 H0 G H G1 H1 G2 H2 W : Hp} {ls : List Addr} {cs cs0 cs2 fr tl : Cs} {l p C : Addr} {te ti tv : TE} {ta : TA} {α β γ κ ι ρ δ : Type} {R : Rep γ} {S : Rep β} {T : Rep γ} {B : Rep κ} {A : AR ι} {D : Ends} {tz tu : TS} {ns : List Str} {X : XK} {Q : VK} {c : Addr × CP}
end
end Sim
namespace Sim
open PySem PySem.Spec PyProof.Rows L2 Evl SlX
theorem Wo.left {G0 H0 G H : Hp} {ls : List Addr} {a b : Cs} (w : Wo G0 H0 ls G H (a ++ b)) : Wo G0 H0 ls G H a := ⟨⟨w.ex, fun c h => w.w.at_ c (List.mem_append_left _ h), by
  have := w.w.nd; rw [List.map_append] at this; exact (List.nodup_append.mp this).1⟩, w.f, fun c h => w.lo c (List.mem_append_left _ h)⟩
end Sim

set_option maxHeartbeats 2000000
/-! a comprehension over a dict's keys; append to a list that nobody keeps -/
namespace Sim
open PySem PySem.Spec PyProof.Rows L2 Evl SlX
section
variable {K : PySem.W.Frag} {σ : L2.St} {G0 H0 G H G1 H1 G2 H2 W : Hp} {ls : List Addr} {cs fr tl : Cs} {l p C a : Addr} {od : Obj} {ws : List (Key × V)} {te ti tv : TE} {ta : TA} {α β γ κ ι ρ δ : Type} [DecidableEq κ] {kf : κ → Key} {R : Rep γ} {S : Rep β} {T : Rep γ} {Sk : Rep κ} {D : Ends} {tz tu : TS} {ns : List Str} {X : XK} {Q : VK} {c : Addr × CP}
end
end Sim

/-! C() of a class without an own __init__; methods called with keywords or defaults, what is raised wished for -/
namespace L2
open PySem PySem.Spec PyProof.Rows
section
variable {X : Cx} {CX : CXT} {k n : Nat} {f C : Addr} {fd : FuncData} {ps ks : List Str} {sp : Sp} {E : St → XK} {x m : Str} {p pos apos : Pos} {e o : Expr} {es : List Expr} {kws : List Keyword} {ta : TE} {t tk : TA} {g : List Value → List Value → List Value} {gV : List V → List V → List V} {ds : List Value} {dvs : List V}
/-! ### o.m(k = v, ..) -/
/-! ### o.m() with defaults -/
end
end L2
namespace Sim
open PySem PySem.Spec PyProof.Rows L2 Evl
section
variable {K : PySem.W.Frag} {σ : L2.St} {G0 H0 G H W : Hp} {ls : List Addr} {cs : Cs} {C p : Addr} {te : TE} {ta tk : TA} {Q : VK} {j n nk : Nat} {ns : List Str} {ps : List Pd} {me : Str}
end
end Sim

/-! rules: what is called with an object of several parts and tells a name -/
namespace Sim
open PySem PySem.Spec PyProof.Rows L2 Evl LamX LamF NdefX
section
variable (P : Program) (w : World) (K : PySem.W.Frag) (mg : Str → Option Value) (base : Heap) {α ρ τ : Type} (pa : α → Addr) (ci : α → ρ → Cs)
/-- what is called; its own cells ct, what it tells an -/
structure RuOk (k : Nat) (G : Hp) (f : Addr) (ct : τ → Cs) (an : τ → ρ → Option (Str × τ)) : Prop where
  cb : ∀ t G' H, Ex G G' → Wd G' H (ct t) → Cbk K H f
  fx : ∀ t t', (ct t').map (·.1) = (ct t).map (·.1)
  ok : CalOk P w K mg base (L2.CX P w) k f (fun vs H Q E => ∃ (a : α) (G2 : Hp) (t : τ) (r : ρ) (nm : Str) (t' : τ), vs = [.ref (pa a)] ∧ Ex G G2 ∧ Wd G2 H (ct t ++ ci a r) ∧ an t r = some (nm, t') ∧ ∀ H3 G3, Fr G2 H G3 H3 ((ct t).map (·.1)) → Wd G3 H3 (ct t' ++ ci a r) → Q (.str nm) H3)
/-- a rule handed over: None (then the rule an0 is made), or what is called -/
def RuAt (k : Nat) (an0 : ρ → Option Str) (G : Hp) (v : V) (ct : τ → Cs) (an : τ → ρ → Option (Str × τ)) : Prop :=
  (v = .non ∧ (∀ t, ct t = []) ∧ ∀ t r, an t r = (an0 r).map fun nm => (nm, t)) ∨ ∃ f, v = .ref f ∧ RuOk P w K mg base pa ci k G f ct an
end
section
variable {P : Program} {w : World} {K : PySem.W.Frag} {mg : Str → Option Value} {base : Heap} {α ρ τ : Type} {pa : α → Addr} {ci : α → ρ → Cs} {k kk : Nat} {G0 H0 G H G2 H2 : Hp} {ls : List Addr} {cs : Cs} {f : Addr} {ct : τ → Cs} {an : τ → ρ → Option (Str × τ)} {σ : L2.St} {an0 : ρ → Option Str} {v : V}
theorem RuOk.mono (e : Ex G G2) (h : RuOk P w K mg base pa ci k G f ct an) : RuOk P w K mg base pa ci k G2 f ct an :=
  ⟨fun t G' H e' => h.cb t G' H (e.trans e'), h.fx, h.ok.imp fun vs H Q E ⟨a, G3, t, r, nm, t', a1, a2, a3⟩ => ⟨a, G3, t, r, nm, t', a1, e.trans a2, a3⟩⟩
theorem RuAt.mono (e : Ex G G2) (h : RuAt P w K mg base pa ci k an0 G v ct an) : RuAt P w K mg base pa ci k an0 G2 v ct an := h.imp id fun ⟨f, h1, h2⟩ => ⟨f, h1, h2.mono e⟩
end
end Sim

set_option maxHeartbeats 2000000
/-! an object with a list of its own, lent and walked by its own __iter__; made where it is told; a field that gets an object just made -/
namespace Sim
open PySem PySem.Spec PyProof.Rows L2 Evl SlX
section
variable {K : PySem.W.Frag} {σ : L2.St} {G0 H0 G H G1 H1 G2 H2 W : Hp} {ls : List Addr} {cs cs0 : Cs} {l p C C2 : Addr} {te : TE} {ta : TA} {α β γ κ ι ρ : Type} {R : Rep γ} {S : Rep β} {B : Rep κ} {A : AR ι} {D : Ends} {tz : TS} {ns : List Str} {X : XK} {Q : VK}
end
end Sim

/-! a step by a rule of the caller's -/
namespace Sim
open PySem PySem.Spec PyProof.Rows L2 Evl LamX LamF NdefX
section
variable {P : Program} {w : World} {K : PySem.W.Frag} {mg : Str → Option Value} {base : Heap} {α ρ τ : Type} {pa : α → Addr} {ci : α → ρ → Cs} {k kk : Nat} {G0 H0 G H G2 H2 : Hp} {ls : List Addr} {cs : Cs} {f : Addr} {ct : τ → Cs} {an : τ → ρ → Option (Str × τ)} {σ : L2.St} {an0 : ρ → Option Str} {v : V}
end
section
variable {D : List Addr} {G W : Hp} {σ : L2.St} {te : TE} {γ κ : Type} {R : Rep γ}
end
section
variable {α : Type} {σ : L2.St} {G0 H0 G H : Hp} {ls : List Addr} {cs : Cs} {C : Addr} {ns : List Str} {fl : α → List Pd} {x : α} {te : TE} {ta : TA} {X : XK} {Q : VK} {me : Str}
end
end Sim

/-! a dict that changes, read as data by a call whose answer is new lists of plain pairs -/
namespace Sim
open PySem PySem.Spec PyProof.Rows L2 Evl LamX LamF NdefX
section
variable {D : List Addr} {W Z G G0 H0 H : Hp} {ls : List Addr} {cs : Cs} {σ : L2.St} {te : TE} {α β κ : Type} {R : Rep α} {S : Rep β} {l : Addr} {i : Nat}
variable [DecidableEq κ] {kf : κ → Key} {d : List (κ × α)}
end
section
variable {σ : L2.St} {G W : Hp} {te : TE} {α β : Type} {R : Rep α} {S : Rep β}
end
end Sim

set_option maxHeartbeats 2000000
/-! texts laid in fields; list.count; a paper told by a run, as data -/
namespace PySem.W
open PySem PySem.Calls PyProof.Rows
open Builtin Builtin.Str Builtin.Int Builtin.Float
end PySem.W
namespace L2
open PySem PySem.Spec PyProof.Rows PySem.W
section
variable {X : Cx} {e spec : Expr} {te : TE} {sp : Str} {n : Nat} {pos : Pos}
end
end L2
namespace Sim
open PySem PySem.Spec PyProof.Rows L2 Evl
/-! ### texts -/
section
variable {K : PySem.W.Frag} {σ : L2.St} {G0 H0 G H G2 H2 W : Hp} {ls : List Addr} {cs : Cs} {l : Addr} {ta : TA} {te ti tu : TE} {tl th : TO} {α β γ κ ι ρ : Type} {R : Rep α} {S : Rep β} {T : Rep γ} {B : Rep κ} {A : AR ι} {D : Ends} {tz : TS} {Q : VK} {X : XK}
/-! ### an item set, its value told with effects -/
/-! ### a paper told by a run, as data -/
/-! ### a def that reads a run and tells a new list -/
end
end Sim

set_option maxHeartbeats 2000000
namespace Sim
open PySem PySem.Spec PyProof.Rows L2 Evl
/-! ### a dict lent to a def that only reads it; a run whose cells move -/
section
variable {K : PySem.W.Frag} {σ : L2.St} {G0 H0 G H G2 H2 W : Hp} {ls : List Addr} {cs : Cs} {l : Addr} {ta : TA} {te ti tu : TE} {α β γ κ ι ρ δ : Type} {R : Rep α} {S : Rep β} {T : Rep γ} {B : Rep κ} {A : AR ι} {Q : VK} {X : XK}
end
end Sim

/-! a def that takes a new list over; records and texts in an exception's fields; mixed lists -/
namespace Sim
open PySem PySem.Spec PyProof.Rows L2 Evl
section
variable {K : PySem.W.Frag} {σ : L2.St} {G0 H0 G H G2 H2 W : Hp} {ls : List Addr} {cs : Cs} {α β γ δ ι : Type} {R : Rep α} {A : AR ι} {te : TE} {ta : TA} {D : Ends} {tz : TS}
end
end Sim

/-! a list of lists that are changed in place -/
namespace Sim
open PySem PySem.Spec PyProof.Rows L2 Evl
section
variable {K : PySem.W.Frag} {σ : L2.St} {G0 H0 G H G2 H2 W : Hp} {ls : List Addr} {cs : Cs} {p : Addr} {α β γ δ ι : Type} {R : Rep α} {te ti tj : TE} {D : Ends} {tz : TS}
end
end Sim

set_option maxHeartbeats 40000000
set_option synthInstance.maxSize 4000
set_option synthInstance.maxHeartbeats 1000000
namespace My
open PySem PySem.Spec PyProof.Rows L2 Sim
def top (i : Nat) : Stmt := PySem.Challenge.pw_askedpoints_k02_refused_orders.main.body.getD i (.Pass ⟨0, 0, 0, 0⟩)
abbrev s_closure : Stmt := top 9
abbrev s_turned : Stmt := top 10
abbrev s_least_above : Stmt := top 11
abbrev s_bounds_table : Stmt := top 12
abbrev s_first_ring : Stmt := top 13
abbrev s_first_lack : Stmt := top 14
abbrev s_longest : Stmt := top 15
abbrev s_neighbours : Stmt := top 16
abbrev s_Order___init__ : Stmt := inClass (top 18) 1
abbrev s_Order___len__ : Stmt := inClass (top 18) 15
abbrev s__law_pot : Stmt := top 20
abbrev s__law_draw : Stmt := top 21
abbrev s__law_int : Stmt := top 22
abbrev s__law_masks : Stmt := top 23
abbrev s__law_under : Stmt := top 24
abbrev s__law_covers : Stmt := top 25
abbrev s__law_spoilt : Stmt := top 26
abbrev s__law_closure : Stmt := top 27
abbrev s__law_first_lack : Stmt := top 28
abbrev s__law_first_error : Stmt := top 29
abbrev s__law_outcome : Stmt := top 30
abbrev s__law_classes : Stmt := top 31
abbrev s_law : Stmt := top 32
def d_closure : He.DefD := ⟨("closure", none), "closure", "closure", defArgs s_closure, defBody s_closure, defScope s_closure, [], []⟩
def d_turned : He.DefD := ⟨("turned", none), "turned", "turned", defArgs s_turned, defBody s_turned, defScope s_turned, [], []⟩
def d_least_above : He.DefD := ⟨("least_above", none), "least_above", "least_above", defArgs s_least_above, defBody s_least_above, defScope s_least_above, [], []⟩
def d_bounds_table : He.DefD := ⟨("bounds_table", none), "bounds_table", "bounds_table", defArgs s_bounds_table, defBody s_bounds_table, defScope s_bounds_table, [], []⟩
def d_first_ring : He.DefD := ⟨("first_ring", none), "first_ring", "first_ring", defArgs s_first_ring, defBody s_first_ring, defScope s_first_ring, [], []⟩
def d_first_lack : He.DefD := ⟨("first_lack", none), "first_lack", "first_lack", defArgs s_first_lack, defBody s_first_lack, defScope s_first_lack, [], []⟩
def d_longest : He.DefD := ⟨("longest", none), "longest", "longest", defArgs s_longest, defBody s_longest, defScope s_longest, [], []⟩
def d_neighbours : He.DefD := ⟨("neighbours", none), "neighbours", "neighbours", defArgs s_neighbours, defBody s_neighbours, defScope s_neighbours, [], []⟩
def d_Order___init__ : He.DefD := ⟨("Order", some "__init__"), "__init__", "Order.__init__", defArgs s_Order___init__, defBody s_Order___init__, defScope s_Order___init__, [], []⟩
def d_Order___len__ : He.DefD := ⟨("Order", some "__len__"), "__len__", "Order.__len__", defArgs s_Order___len__, defBody s_Order___len__, defScope s_Order___len__, [], []⟩
def d__law_pot : He.DefD := ⟨("_law_pot", none), "_law_pot", "_law_pot", defArgs s__law_pot, defBody s__law_pot, defScope s__law_pot, [], []⟩
def d__law_draw : He.DefD := ⟨("_law_draw", none), "_law_draw", "_law_draw", defArgs s__law_draw, defBody s__law_draw, defScope s__law_draw, [], []⟩
def d__law_int : He.DefD := ⟨("_law_int", none), "_law_int", "_law_int", defArgs s__law_int, defBody s__law_int, defScope s__law_int, [], []⟩
def d__law_masks : He.DefD := ⟨("_law_masks", none), "_law_masks", "_law_masks", defArgs s__law_masks, defBody s__law_masks, defScope s__law_masks, [], []⟩
def d__law_under : He.DefD := ⟨("_law_under", none), "_law_under", "_law_under", defArgs s__law_under, defBody s__law_under, defScope s__law_under, [], []⟩
def d__law_covers : He.DefD := ⟨("_law_covers", none), "_law_covers", "_law_covers", defArgs s__law_covers, defBody s__law_covers, defScope s__law_covers, [], []⟩
def d__law_spoilt : He.DefD := ⟨("_law_spoilt", none), "_law_spoilt", "_law_spoilt", defArgs s__law_spoilt, defBody s__law_spoilt, defScope s__law_spoilt, [], []⟩
def d__law_closure : He.DefD := ⟨("_law_closure", none), "_law_closure", "_law_closure", defArgs s__law_closure, defBody s__law_closure, defScope s__law_closure, [], []⟩
def d__law_first_lack : He.DefD := ⟨("_law_first_lack", none), "_law_first_lack", "_law_first_lack", defArgs s__law_first_lack, defBody s__law_first_lack, defScope s__law_first_lack, [], []⟩
def d__law_first_error : He.DefD := ⟨("_law_first_error", none), "_law_first_error", "_law_first_error", defArgs s__law_first_error, defBody s__law_first_error, defScope s__law_first_error, [], []⟩
def d__law_outcome : He.DefD := ⟨("_law_outcome", none), "_law_outcome", "_law_outcome", defArgs s__law_outcome, defBody s__law_outcome, defScope s__law_outcome, [], []⟩
def d__law_classes : He.DefD := ⟨("_law_classes", none), "_law_classes", "_law_classes", defArgs s__law_classes, defBody s__law_classes, defScope s__law_classes, [], []⟩
def d_law : He.DefD := ⟨("law", none), "law", "law", defArgs s_law, defBody s_law, defScope s_law, [], []⟩
def fn : List He.DefD := [d_closure, d_turned, d_least_above, d_bounds_table, d_first_ring, d_first_lack, d_longest, d_neighbours, d_Order___init__, d_Order___len__, d__law_pot, d__law_draw, d__law_int, d__law_masks, d__law_under, d__law_covers, d__law_spoilt, d__law_closure, d__law_first_lack, d__law_first_error, d__law_outcome, d__law_classes, d_law]
def fa : List He.Fa := [.glo "_wall", .glo "AskedError", .glo "BadSize", .glo "NotElement", .glo "Ring", .glo "NoJoin", .glo "NoMeet", .glo "closure", .glo "turned", .glo "least_above", .glo "bounds_table", .glo "first_ring", .glo "first_lack", .glo "longest", .glo "neighbours", .glo "Order", .glo "_law_pot", .glo "_law_draw", .glo "_law_int", .glo "_law_masks", .glo "_law_under", .glo "_law_covers", .glo "_law_spoilt", .glo "_law_closure", .glo "_law_first_lack", .glo "_law_first_error", .glo "_law_outcome", .glo "_law_classes", .glo "law", .free "super", .free "range", .free "len", .free "max", .free "min", .free "abs", .free "int", .free "list", .free "sorted", .free "isinstance", .free "bool", .free "all", .free "any", .free "ValueError", .cls "Order", .noat "Order" "_above", .noat "Order" "_joins", .noat "Order" "_meets", .noat "Order" "_members", .noat "Order" "_height", .mkr "Order", .meth "Order" "__len__"]
def ex : List (PySem.W.Frag → Bool) := [fun K => He.conB K "Order" "MOST" (.int 12), xsB ["BadSize"], xnB ["BadSize"] ["size"], xaB ["BadSize"] "BadSize" true, xaB ["NotElement"] "BadSize" false, xsB ["NotElement"], xnB ["NotElement"] ["value"], xaB ["NotElement"] "NotElement" true, xaB ["Ring"] "BadSize" false, xaB ["Ring"] "NotElement" false, xsB ["Ring"], xnB ["Ring"] ["first"], xnB ["Ring"] ["second"], xaB ["Ring"] "Ring" true, xaB ["NoJoin"] "BadSize" false, xaB ["NoJoin"] "NotElement" false, xaB ["NoJoin"] "Ring" false, xsB ["NoJoin"], xnB ["NoJoin"] ["first"], xnB ["NoJoin"] ["second"], xaB ["NoJoin"] "NoJoin" true, xaB ["NoMeet"] "BadSize" false, xaB ["NoMeet"] "NotElement" false, xaB ["NoMeet"] "Ring" false, xaB ["NoMeet"] "NoJoin" false, xsB ["NoMeet"], xnB ["NoMeet"] ["first"], xnB ["NoMeet"] ["second"], xaB ["NoMeet"] "NoMeet" true, xsB ["BadSize", "NotElement", "Ring", "NoJoin", "NoMeet"], xkTB ["BadSize", "NotElement", "Ring", "NoJoin", "NoMeet"] "ValueError" true, xkB ["BadSize", "NotElement", "Ring", "NoJoin", "NoMeet"] "BadSize" ["BadSize"], xkB ["BadSize", "NotElement", "Ring", "NoJoin", "NoMeet"] "NotElement" ["NotElement"], xkB ["BadSize", "NotElement", "Ring", "NoJoin", "NoMeet"] "Ring" ["Ring"], xkB ["BadSize", "NotElement", "Ring", "NoJoin", "NoMeet"] "NoJoin" ["NoJoin"], xkB ["BadSize", "NotElement", "Ring", "NoJoin", "NoMeet"] "NoMeet" ["NoMeet"], xaB ["BadSize", "NotElement", "Ring", "NoJoin", "NoMeet"] "AskedError" true, noB "BadSize" "size", noB "NotElement" "value", noB "Ring" "first", noB "Ring" "second", noB "NoJoin" "first", noB "NoJoin" "second", noB "NoMeet" "first", noB "NoMeet" "second"]
def P : Program := (PySem.Challenge.rw_askedpoints_k02_refused_orders).prog
abbrev s_BadSize___init__ : Stmt := inClass (top 3) 0
abbrev s_NotElement___init__ : Stmt := inClass (top 4) 0
abbrev s_Ring___init__ : Stmt := inClass (top 5) 0
abbrev s_NoJoin___init__ : Stmt := inClass (top 6) 0
abbrev s_NoMeet___init__ : Stmt := inClass (top 7) 0
def x_BadSize : XcD := ⟨"BadSize", "BadSize.__init__", defArgs s_BadSize___init__, defBody s_BadSize___init__, defScope s_BadSize___init__⟩
def x_NotElement : XcD := ⟨"NotElement", "NotElement.__init__", defArgs s_NotElement___init__, defBody s_NotElement___init__, defScope s_NotElement___init__⟩
def x_Ring : XcD := ⟨"Ring", "Ring.__init__", defArgs s_Ring___init__, defBody s_Ring___init__, defScope s_Ring___init__⟩
def x_NoJoin : XcD := ⟨"NoJoin", "NoJoin.__init__", defArgs s_NoJoin___init__, defBody s_NoJoin___init__, defScope s_NoJoin___init__⟩
def x_NoMeet : XcD := ⟨"NoMeet", "NoMeet.__init__", defArgs s_NoMeet___init__, defBody s_NoMeet___init__, defScope s_NoMeet___init__⟩
def xs : List XcD := [x_BadSize, x_NotElement, x_Ring, x_NoJoin, x_NoMeet]
def gs : List GeD := []
abbrev Tx (K : PySem.W.Frag) (mg : Str → Option Value) : Prop := TxX fa fn ex xs gs P.main.file K mg
section
variable {w : World} {K : PySem.W.Frag} {mg : Str → Option Value} {base : Heap}
end
end My
namespace My
open PySem L2 Sim
section
variable {α β γ σ ρ : Type}
theorem bs {a : α} {f : α → Option β} : Option.bind (some a) f = f a := Eq.trans (Option.bind_some a f) (Eq.refl _)
end

/-- the pairs lie below n -/
def InR (n : Nat) (ps : List (Int × Int)) : Prop := ∀ p ∈ ps, ∃ a b : Nat, a < n ∧ b < n ∧ p = ((a : Int), (b : Int))
/-! pop -/
section
open PyProof.Rows
end
end My

namespace My
open PySem L2 Sim
/-! ### Warshall -/
/-- an order on the places below n, told by pairs -/
structure Ord (n : Nat) (le : Nat → Nat → Bool) : Prop where
  rf : ∀ a, a < n → le a a = true
  an : ∀ a b, a < n → b < n → le a b = true → le b a = true → a = b
  tr : ∀ a b c, a < n → b < n → c < n → le a b = true → le b c = true → le a c = true
/-- the pairs tell the order -/
structure Gens (n : Nat) (le : Nat → Nat → Bool) (ps : List (Int × Int)) : Prop where
  rg : InR n ps
  sd : ∀ a b, a < n → b < n → ((a : Int), (b : Int)) ∈ ps → le a b = true
  gn : ∀ S : Nat → Nat → Prop, (∀ a, a < n → S a a) → (∀ a b c, a < n → b < n → c < n → S a b → S b c → S a c) → (∀ a b, a < n → b < n → ((a : Int), (b : Int)) ∈ ps → S a b) → ∀ a b, a < n → b < n → le a b = true → S a b
end My

namespace My
open PySem L2 Sim PyProof.Rows
/-! ### the pot -/
end My

namespace My
end My

namespace My
open PySem L2 Sim PyProof.Rows
/-! ### the pot -/
/-! ### the masks -/
structure Masks (ms : List Nat) : Prop where
  nd : ms.Nodup
  lt : ∀ x ∈ ms, x < 32
  top : 31 ∈ ms
  cl : ∀ x ∈ ms, ∀ y ∈ ms, x &&& y ∈ ms
theorem len_sub {α : Type} [BEq α] [LawfulBEq α] : ∀ {l l2 : List α}, l.Nodup → (∀ x ∈ l, x ∈ l2) → l.length ≤ l2.length
  | [], _, _, _ => Nat.zero_le _
  | x :: xs, l2, h, hs => by
    have hx := hs x (List.mem_cons_self ..)
    obtain ⟨h1, h2⟩ := List.nodup_cons.mp h
    have := len_sub (l := xs) (l2 := l2.erase x) h2 fun y hy => by
      have hne : y ≠ x := fun e => h1 (e ▸ hy)
      exact (List.mem_erase_of_ne hne).mpr (hs y (List.mem_cons_of_mem _ hy))
    rw [List.length_erase_of_mem hx] at this
    have := List.length_pos_of_mem hx
    simp only [List.length_cons]
    omega
/-! ### the order of the masks -/
def mle (ms : List Nat) (a b : Nat) : Bool := (ms.getD a 0 &&& ms.getD b 0) == ms.getD a 0
theorem getD_inj {ms : List Nat} (hd : ms.Nodup) {a b : Nat} (ha : a < ms.length) (hb : b < ms.length) (h : ms.getD a 0 = ms.getD b 0) : a = b := by
  rw [List.getD_eq_getElem?_getD, List.getD_eq_getElem?_getD, List.getElem?_eq_getElem ha, List.getElem?_eq_getElem hb] at h
  exact (List.getElem_inj hd).mp h
theorem mOrd {ms : List Nat} (h : Masks ms) : Ord ms.length (mle ms) where
  rf a _ := by unfold mle; rw [Nat.and_self]; simp
  an a b ha hb h1 h2 := by
    unfold mle at h1 h2
    rw [beq_iff_eq] at h1 h2
    rw [Nat.and_comm] at h2
    exact getD_inj h.nd ha hb (h1.symm.trans h2)
  tr a b c ha hb hc h1 h2 := by
    unfold mle at h1 h2 ⊢
    rw [beq_iff_eq] at h1 h2 ⊢
    rw [← h1, Nat.and_assoc, h2]
theorem Masks.ne {ms : List Nat} (h : Masks ms) : 1 ≤ ms.length := List.length_pos_of_mem h.top
end My

namespace My
open PySem L2 Sim PyProof.Rows
theorem filter_lt {α : Type} {p q : α → Bool} : ∀ {xs : List α}, (∀ x ∈ xs, q x = true → p x = true) → (∃ x ∈ xs, p x = true ∧ q x = false) → (xs.filter q).length < (xs.filter p).length
  | [], _, h => by obtain ⟨_, h, _⟩ := h; cases h
  | x :: xs, h, h2 => by
    have hle : ∀ {xs : List α}, (∀ x ∈ xs, q x = true → p x = true) → (xs.filter q).length ≤ (xs.filter p).length := by
      intro xs
      induction xs with
      | nil => intro _; simp
      | cons y ys ih =>
        intro h
        have := ih fun z hz => h z (List.mem_cons_of_mem _ hz)
        have h1 := h y (List.mem_cons_self ..)
        simp only [List.filter_cons]
        cases e : q y <;> cases e2 : p y <;> simp_all <;> omega
    have hx := h x (List.mem_cons_self ..)
    have ht := fun y hy => h y (List.mem_cons_of_mem x hy)
    obtain ⟨y, hy, h3, h4⟩ := h2
    simp only [List.filter_cons]
    rcases List.mem_cons.mp hy with rfl | hy
    · rw [h3, h4]
      have := hle ht
      simp
      omega
    · have := filter_lt ht ⟨y, hy, h3, h4⟩
      cases e : q x <;> cases e2 : p x <;> simp_all <;> omega

end My

namespace My
open PySem L2 Sim PyProof.Rows
/-! ### the covers, the pairs given -/
def btw (ms : List Nat) (a b : Nat) : List Nat := (List.range ms.length).filter fun k => mle ms a k && mle ms k b
def isCov (ms : List Nat) (a b : Nat) : Bool := !(a == b) && (btw ms a b).length == 2
def covs (ms : List Nat) : List (Int × Int) := (List.range ms.length).flatMap fun a => (List.range ms.length).flatMap fun b => if isCov ms a b = true then [((a : Int), (b : Int))] else []
theorem covs_mem {ms : List Nat} {p : Int × Int} : p ∈ covs ms ↔ ∃ a b, a < ms.length ∧ b < ms.length ∧ isCov ms a b = true ∧ p = ((a : Int), (b : Int)) := by
  unfold covs
  rw [List.mem_flatMap]
  constructor
  · rintro ⟨a, ha, h⟩
    obtain ⟨b, hb, h⟩ := List.mem_flatMap.mp h
    split at h
    · rename_i hc
      exact ⟨a, b, List.mem_range.mp ha, List.mem_range.mp hb, hc, List.mem_singleton.mp h⟩
    · cases h
  · rintro ⟨a, b, ha, hb, hc, rfl⟩
    refine ⟨a, List.mem_range.mpr ha, List.mem_flatMap.mpr ⟨b, List.mem_range.mpr hb, ?_⟩⟩
    rw [if_pos hc]
    exact List.mem_singleton.mpr rfl
/-- pairs that tell the order of the masks -/
structure Told (ms : List Nat) (ps : List (Int × Int)) : Prop where
  rg : ∀ p ∈ ps, ∃ a b : Nat, a < ms.length ∧ b < ms.length ∧ mle ms a b = true ∧ p = ((a : Int), (b : Int))
  cv : ∀ p ∈ covs ms, p ∈ ps
theorem cov_le {ms : List Nat} (h : Masks ms) {a b : Nat} (ha : a < ms.length) (hb : b < ms.length) (hc : isCov ms a b = true) : mle ms a b = true := by
  unfold isCov at hc
  rw [Bool.and_eq_true, beq_iff_eq] at hc
  have hl : btw ms a b ≠ [] := by intro e; rw [e] at hc; exact absurd hc.2 (by decide)
  obtain ⟨k, hk⟩ := List.exists_mem_of_ne_nil _ hl
  unfold btw at hk
  rw [List.mem_filter, Bool.and_eq_true, List.mem_range] at hk
  exact (mOrd h).tr a k b ha hk.1 hb hk.2.1 hk.2.2
theorem Told.covs {ms : List Nat} (h : Masks ms) : Told ms (covs ms) :=
  ⟨fun p hp => by obtain ⟨a, b, ha, hb, hc, rfl⟩ := covs_mem.mp hp; exact ⟨a, b, ha, hb, cov_le h ha hb hc, rfl⟩, fun p hp => hp⟩
theorem Told.gens {ms : List Nat} {ps : List (Int × Int)} (h : Masks ms) (t : Told ms ps) : Gens ms.length (mle ms) ps where
  rg p hp := by obtain ⟨a, b, ha, hb, _, e⟩ := t.rg p hp; exact ⟨a, b, ha, hb, e⟩
  sd a b ha hb hp := by
    obtain ⟨c, d, _, _, hc, e⟩ := t.rg _ hp
    rw [Prod.mk.injEq] at e
    have h1 : a = c := by omega
    have h2 : b = d := by omega
    subst h1; subst h2
    exact hc
  gn S rf tr sd := by
    have o := mOrd h
    have key : ∀ k a b, (btw ms a b).length ≤ k → a < ms.length → b < ms.length → mle ms a b = true → S a b := by
      intro k
      induction k with
      | zero =>
        intro a b hk ha hb hle
        have : a ∈ btw ms a b := by unfold btw; rw [List.mem_filter, List.mem_range]; simp [ha, o.rf a ha, hle]
        rw [show btw ms a b = [] from List.length_eq_zero_iff.mp (by omega)] at this
        cases this
      | succ k ih =>
        intro a b hk ha hb hle
        by_cases hab : a = b
        · subst hab; exact rf a ha
        have hm : ∀ x, x ∈ btw ms a b ↔ x < ms.length ∧ mle ms a x = true ∧ mle ms x b = true := fun x => by
          unfold btw; rw [List.mem_filter, List.mem_range, Bool.and_eq_true]
        have hA := (hm a).mpr ⟨ha, o.rf a ha, hle⟩
        have hB := (hm b).mpr ⟨hb, hle, o.rf b hb⟩
        have hnd : (btw ms a b).Nodup := List.Pairwise.filter _ List.nodup_range
        have h2 : 2 ≤ (btw ms a b).length := len_sub (l := [a, b]) (by simp [hab]) (by
          intro x hx
          rcases List.mem_cons.mp hx with rfl | hx
          · exact hA
          · rw [List.mem_singleton] at hx; subst hx; exact hB)
        by_cases h3 : (btw ms a b).length = 2
        · refine sd a b ha hb (t.cv _ (covs_mem.mpr ⟨a, b, ha, hb, ?_, rfl⟩))
          unfold isCov
          simp [hab, h3]
        · have : ∃ c, c ∈ btw ms a b ∧ c ≠ a ∧ c ≠ b := Classical.byContradiction fun q => by
            have := len_sub (l2 := [a, b]) hnd (by
              intro x hx
              by_cases e1 : x = a
              · simp [e1]
              · by_cases e2 : x = b
                · simp [e2]
                · exact absurd ⟨x, hx, e1, e2⟩ q)
            simp at this
            omega
          obtain ⟨c, hc, hca, hcb⟩ := this
          obtain ⟨c1, c2, c3⟩ := (hm c).mp hc
          have l1 : (btw ms a c).length < (btw ms a b).length := filter_lt (fun x hx hq => by
            rw [Bool.and_eq_true] at hq ⊢
            exact ⟨hq.1, o.tr x c b (List.mem_range.mp hx) c1 hb hq.2 c3⟩) ⟨b, List.mem_range.mpr hb, by simp [hle, o.rf b hb], by
              cases e : mle ms b c with
              | false => simp
              | true => exact absurd (o.an c b c1 hb c3 e) hcb⟩
          have l2 : (btw ms c b).length < (btw ms a b).length := filter_lt (fun x hx hq => by
            rw [Bool.and_eq_true] at hq ⊢
            exact ⟨o.tr a c x ha c1 (List.mem_range.mp hx) c2 hq.1, hq.2⟩) ⟨a, List.mem_range.mpr ha, by simp [hle, o.rf a ha], by
              cases e : mle ms c a with
              | false => simp
              | true => exact absurd (o.an c a c1 ha e c2) hca⟩
          exact tr a c b ha c1 hb (ih a c (by omega) ha c1 c2) (ih c b (by omega) c1 hb c3)
    intro a b ha hb hle
    exact key _ a b (Nat.le_refl _) ha hb hle
end My

namespace My
open PySem L2 Sim PyProof.Rows
/-! ### making an order: what comes of any pairs -/
/-- the first pair a < b with p -/
def ff (n : Nat) (p : Nat → Nat → Bool) : Option (Nat × Nat) :=
  (List.range n).findSome? fun a => ((List.range (n - (a + 1))).find? fun k => p a (a + 1 + k)).map fun k => (a, a + 1 + k)
/-- the numbers above both; the first of them that is below all of them -/
def ups (n : Nat) (R : Nat → Nat → Bool) (a b : Nat) : List Nat := (List.range n).filter fun c => R a c && R b c
def lab (n : Nat) (R : Nat → Nat → Bool) (a b : Nat) : Option Nat := (ups n R a b).find? fun e => ((ups n R a b).filter fun x => R e x).length == (ups n R a b).length
def two (C : Str) (q : Nat × Nat) : Xn := ⟨C, [("first", .int (q.1 : Int)), ("second", .int (q.2 : Int))]⟩
/-- what making it ends with -/
def made (n : Nat) (R : Nat → Nat → Bool) : Option Xn :=
  match ff n fun a b => R a b && R b a with
  | some q => some (two "Ring" q)
  | none => match ff n fun a b => (lab n R a b).isNone with
    | some q => some (two "NoJoin" q)
    | none => match ff n fun a b => (lab n (fun a b => R b a) a b).isNone with
      | some q => some (two "NoMeet" q)
      | none => none
end My

namespace My
open PySem L2 Sim PyProof.Rows
/-! ### Order.__init__ with what it raises -/
end My

namespace My
open PySem L2 Sim PyProof.Rows
/-! ### the law's closure, worked out in place; its first error -/
end My

namespace My
open PySem L2 Sim PyProof.Rows
/-! ### the law's spoilt pairs: any outcome, in bounds -/
end My

namespace My
open PySem L2 Sim PyProof.Rows
/-! ### what is due, and what comes -/
inductive Oc where
  | fine
  | size
  | elem (v : Int)
  | ring (q : Nat × Nat)
  | join (q : Nat × Nat)
  | meet (q : Nat × Nat)
def Oc.ex (n : Int) : Oc → Option Xn
  | .fine => none
  | .size => some ⟨"BadSize", [("size", .int n)]⟩
  | .elem v => some ⟨"NotElement", [("value", .int v)]⟩
  | .ring q => some (two "Ring" q)
  | .join q => some (two "NoJoin" q)
  | .meet q => some (two "NoMeet" q)
def th (w : Str) (q : Nat × Nat) : PyData := .tuple [.str w, .int (q.1 : Int), .int (q.2 : Int)]
end My

set_option maxHeartbeats 0
namespace My
open PySem PySem.Spec PyProof.Rows L2 Sim
abbrev Rw1 : PySem.W.OpenRow := PySem.W.OpenLaw.row PySem.Challenge.rw_askedpoints_k02_refused_orders
abbrev hk : PySem.W.Hook := hookX 5 fa fn ex xs gs P.main.file
def ob (s : PySem.W.SharedT) : AlX := obsXG 5 fa fn ex xs gs P.main.file (HandSHeadRun.getT s)
def loose0 : List PySem.Str := ["_wall", "AskedError", "BadSize", "NotElement", "Ring", "NoJoin", "NoMeet", "closure", "turned", "least_above", "bounds_table", "first_ring", "first_lack", "longest", "neighbours"]
def loose1 : List PySem.Str := ["Order", "_law_pot", "_law_draw", "_law_int", "_law_masks", "_law_under", "_law_covers", "_law_spoilt", "_law_closure", "_law_first_lack", "_law_first_error", "_law_outcome", "_law_classes"]
def loose : List PySem.Str := loose0 ++ (loose1)
theorem run_join {α β γ δ : Type} {x : Option α} {f : α → β × γ} {g : α → δ} {b : β} {c : γ} {d : δ} (h1 : x.map f = some (b, c)) (h2 : x.map g = some d) : x.map (fun s => ((f s).1, (f s).2, g s)) = some (b, c, d) := by
  cases x with
  | none => cases h1
  | some s =>
    have h1 : f s = (b, c) := Option.some.inj h1
    have h2 : g s = d := Option.some.inj h2
    show some ((f s).1, (f s).2, g s) = _
    rw [h1, h2]
section
open PySem.W PySem.Calls HandSHeadRun
theorem run_mk {r : PySem.W.OpenRow} {q : Program} {H : PySem.W.Hook} {ob : PySem.W.SharedT → H.α} {M : Nat} {loose : List PySem.Str} {w : World}
    (h1 : ∀ os : OsState, (endF (stepQ (denQ tabQ) r.prog w) M r.prog w os).map (fun s => (looksF r.prog (boot_heap w.params) s.abs, seenQ q loose (importedModules r.prog.main.body) (fun s => xlAt q [] s && recOk r.toRowW.records s) s.abs)) = some (true, openGood q loose))
    (h2 : ∀ os : OsState, (endF (stepQ (denQ tabQ) r.prog w) M r.prog w os).map ob = some (H.val w)) : RunEq r q H ob M loose w := fun os => run_join (h1 os) (h2 os)
theorem run1 (w : World) : ∀ os : OsState, (endF (stepQ (denQ tabQ) Rw1.prog w) 9000 Rw1.prog w os).map (fun s => (looksF Rw1.prog (boot_heap w.params) s.abs, seenQ (PySem.W.view Rw1.prog [32]) loose (importedModules Rw1.prog.main.body) (fun s => xlAt (PySem.W.view Rw1.prog [32]) [] s && recOk Rw1.toRowW.records s) s.abs)) = some (true, openGood (PySem.W.view Rw1.prog [32]) loose) := by
  intro os
  kernel_rfl
theorem run2 (w : World) : ∀ os : OsState, (endF (stepQ (denQ tabQ) Rw1.prog w) 9000 Rw1.prog w os).map ob = some (hk.val w) := by
  intro os
  kernel_rfl
theorem run (w : World) : RunEq Rw1 (PySem.W.view Rw1.prog [32]) hk ob 9000 loose w := run_mk (run1 w) (run2 w)
end
end My
open PySem PySem.W PySem.Calls PyProof.Rows
end
/-! Sim: what a reading does, told by plain Lean data (mirrors). -/
namespace Sim
open PySem L2 Evl

/-! ### heaps: the data heap G below the heap H -/
theorem Up.lay {G H : Hp} {p : Addr} {o : HO} (e : Ex G H) (n : H p = none) : Up G H (upd G p o) (upd H p o) := by
  refine ⟨Ex.new (fresh_back e n), fun a u h => ?_, Ex.new n, fun a h1 h2 => ?_⟩
  · by_cases q : a = p
    · subst q; rw [upd_same] at h ⊢; exact h
    · rw [upd_ne q] at h ⊢; exact e a u h
  · by_cases q : a = p
    · subst q; exact absurd n h1
    · rw [upd_ne q]; exact h2

/-! ### data as it stands in a heap -/
def rU : Rep Unit := ⟨fun _ v _ => v = .non, fun _ h => h⟩
theorem scI : rI.Sc := fun h => h
theorem pr_get {R : V → α → Prop} : ∀ {vs : List V} {xs : List α} {i : Nat} {x : α}, Paired R vs xs → xs[i]? = some x → ∃ v, vs[i]? = some v ∧ R v x
  | _, _, _, _, .nil, e => by simp at e
  | _, _, 0, _, .cons r _, e => by simp at e; subst e; exact ⟨_, rfl, r⟩
  | _, _, i + 1, x, .cons _ t, e => by
    obtain ⟨u, h1, h2⟩ := pr_get (i := i) (x := x) t (by simpa using e)
    exact ⟨u, by simpa using h1, h2⟩
theorem pr_get' {R : V → α → Prop} : ∀ {vs : List V} {xs : List α} {i : Nat} {v : V}, Paired R vs xs → vs[i]? = some v → ∃ x, xs[i]? = some x ∧ R v x
  | _, _, _, _, .nil, e => by simp at e
  | _, _, 0, _, .cons r _, e => by simp at e; subst e; exact ⟨_, rfl, r⟩
  | _, _, i + 1, x, .cons _ t, e => by
    obtain ⟨u, h1, h2⟩ := pr_get' (i := i) (v := x) t (by simpa using e)
    exact ⟨u, by simpa using h1, h2⟩
theorem pr_app {R : V → α → Prop} : ∀ {vs : List V} {xs : List α} {vs' : List V} {xs' : List α}, Paired R vs xs → Paired R vs' xs' → Paired R (vs ++ vs') (xs ++ xs')
  | _, _, _, _, .nil, h => h
  | _, _, _, _, .cons r t, h => .cons r (pr_app t h)

/-! ### mirrors that may lack an answer -/
theorem bindS {α β : Type} {m : Option α} {f : α → Option β} {r : β} (h : (m >>= f) = some r) : ∃ x, m = some x ∧ f x = some r := by
  cases m with
  | none => exact absurd h (by simp)
  | some x => exact ⟨x, rfl, h⟩

/-! ### expressions -/
def aN : AR Unit := ⟨fun _ vs _ => vs = [], fun _ h => h⟩
def aC {α ι : Type} (R : Rep α) (A : AR ι) : AR (α × ι) := ⟨fun H vs p => ∃ v ws, vs = v :: ws ∧ R.r H v p.1 ∧ A.r H ws p.2,
  fun e ⟨v, ws, h1, h2, h3⟩ => ⟨v, ws, h1, R.mono e h2, A.mono e h3⟩⟩
section
variable {K : PySem.W.Frag} {σ : L2.St} {G H G' W W' : Hp} {ta tb te : TE} {t u : TT} {α β γ ι : Type} {R : Rep α} {S : Rep β} {T : Rep γ} {A : AR ι}
theorem e_var {i : Nat} {v : V} {x : α} (hi : σ[i]? = some (some v)) (hv : R.r G v x) : E (tVar i) σ G W R (some x) := fun y hy H e _ Q q => by
  cases hy
  exact ⟨v, hi, q v H G (Up.refl e) hv⟩
theorem e_c {v : V} {x : α} (hv : R.r G v x) : E (tC v) σ G W R (some x) := fun y hy H e _ Q q => by
  cases hy
  exact q v H G (Up.refl e) hv
theorem e_int {i : Int} : E (tC (.int i)) σ G W rI (some i) := e_c rfl
theorem e_bl {i : Bool} : E (tC (.bl i)) σ G W rB (some i) := e_c rfl
theorem e_str {i : Str} : E (tC (.str i)) σ G W rS (some i) := e_c rfl
theorem e_non : E (tC .non) σ G W rU (some ()) := e_c rfl
/-- an operator on values, as a mirror -/
def RR (r : R2) (R : Rep α) (S : Rep β) (T : Rep γ) (f : α → β → Option γ) : Prop :=
  ∀ v w x y z H G, R.r G v x → S.r G w y → f x y = some z → Ex G H → ∀ Q : VK, (∀ u H2 G2, Up G H G2 H2 → T.r G2 u z → Q u H2) → r v w H Q
theorem e_op {r : R2} {f : α → β → Option γ} {ma : Option α} {mb : Option β} (hr : RR r R S T f) (ha : E ta σ G W R ma) (hb : E tb σ G W S mb) :
    E (tOp r ta tb) σ G W T (ma >>= fun x => mb >>= fun y => f x y) := fun z hz H e e' Q q => by
  obtain ⟨x, hx, hz⟩ := bindS hz
  obtain ⟨y, hy, hz⟩ := bindS hz
  refine ha x hx H e e' _ fun v H1 G1 u1 r1 => ?_
  refine (hb.mono u1.gg (e'.trans u1.hh)) y hy H1 u1.gh (Ex.refl _) _ fun w H2 G2 u2 r2 => ?_
  exact hr v w x y z H2 G2 (R.mono u2.gg r1) r2 hz u2.gh Q fun u H3 G3 u3 r3 => q u H3 G3 ((u1.trans u2).trans u3) r3
theorem rr_I0 {g : Int → Int → V} {f : Int → Int → γ} (h : ∀ i j H, T.r H (g i j) (f i j)) : RR (rI0 g) rI rI T (fun i j => some (f i j)) := fun v w x y z H G hv hw hz e Q q => by
  cases hv; cases hw; cases hz
  exact ⟨x, y, rfl, rfl, q _ H G (Up.refl e) (h x y G)⟩
theorem rr_I {C : Int → Int → Prop} {g : Int → Int → V} {f : Int → Int → Option γ} (h : ∀ i j z, f i j = some z → C i j ∧ ∀ H, T.r H (g i j) z) : RR (L2.rI C g) rI rI T f := fun v w x y z H G hv hw hz e Q q => by
  cases hv; cases hw
  obtain ⟨h1, h2⟩ := h x y z hz
  exact ⟨x, y, rfl, rfl, h1, q _ H G (Up.refl e) (h2 G)⟩
end
end Sim

namespace Sim
open PySem L2 Evl

/-! ### cells: objects that change -/
section
variable {G H G2 H2 : Hp} {cs : Cs} {l : Addr} {cp cp' : CP}
theorem Wd.tail (w : Wd G H ((l, cp) :: cs)) : Wd G H cs := ⟨w.ex, fun c h => w.at_ c (List.mem_cons_of_mem _ h), (List.nodup_cons.mp w.nd).2⟩
theorem Wd.swap {l' : Addr} (w : Wd G H ((l, cp) :: (l', cp') :: cs)) : Wd G H ((l', cp') :: (l, cp) :: cs) := ⟨w.ex, fun c h => w.at_ c (by
  rcases List.mem_cons.mp h with h | h
  · subst h; exact List.mem_cons_of_mem _ (List.mem_cons_self ..)
  · rcases List.mem_cons.mp h with h | h
    · subst h; exact List.mem_cons_self ..
    · exact List.mem_cons_of_mem _ (List.mem_cons_of_mem _ h)), by
  have := w.nd
  simp only [List.map_cons, List.nodup_cons, List.mem_cons, not_or] at this ⊢
  exact ⟨⟨fun z => this.1.1 z.symm, this.2.1⟩, this.1.2, this.2.2⟩⟩
/-- the first cell is written -/
theorem Wd.write (w : Wd G H ((l, cp) :: cs)) {o : HO} (h : cp'.p G o) : Wd G (upd H l o) ((l, cp') :: cs) := by
  refine ⟨fun a u e => ?_, fun c hc => ?_, w.nd⟩
  · rw [upd_ne (fun z => by subst z; rw [w.head.1] at e; cases e)]; exact w.ex a u e
  · rcases List.mem_cons.mp hc with hc | hc
    · subst hc; exact ⟨w.head.1, o, upd_same, h⟩
    · obtain ⟨h1, o', h2, h3⟩ := w.tail.at_ c hc
      have hne : c.1 ≠ l := fun z => (List.nodup_cons.mp w.nd).1 (by rw [← z]; exact List.mem_map_of_mem (f := (·.1)) hc)
      exact ⟨h1, o', by rw [upd_ne hne]; exact h2, h3⟩
end
/-! ### promises -/
/-- what is handed back is data -/
def PF {ι α : Type} (A : AR ι) (R : Rep α) (f : ι → Option α) : Sp := fun vs H Q _ => ∃ G i x, Ex G H ∧ A.r G vs i ∧ f i = some x ∧ ∀ v H2 G2, Up G H G2 H2 → R.r G2 v x → Q v H2
/-- a new list is handed back -/
def PL {ι α : Type} (A : AR ι) (R : Rep α) (f : ι → Option (List α)) : Sp := fun vs H Q _ => ∃ G i x, Ex G H ∧ A.r G vs i ∧ f i = some x ∧
  ∀ p H2 G2, H p = none → Up G H G2 H2 → Wd G2 H2 [(p, cL R x)] → Q (.ref p) H2
def PM {ι κ α : Type} (A : AR ι) (ci : ι → κ → Cs) (R : Rep α) (f : ι → κ → Option (α × κ)) : Sp := fun vs H Q _ => ∃ G i k x k', A.r G vs i ∧ Wd G H (ci i k) ∧ f i k = some (x, k') ∧
  ∀ v H2 G2, Fr G H G2 H2 ((ci i k).map (·.1)) → Wd G2 H2 (ci i k') → R.r G2 v x → Q v H2
def PML {ι κ α : Type} (A : AR ι) (ci : ι → κ → Cs) (R : Rep α) (f : ι → κ → Option (List α × κ)) : Sp := fun vs H Q _ => ∃ G i k x k', A.r G vs i ∧ Wd G H (ci i k) ∧ f i k = some (x, k') ∧
  ∀ p H2 G2, H p = none → Fr G H G2 H2 ((ci i k).map (·.1)) → Wd G2 H2 ((p, cL R x) :: ci i k') → Q (.ref p) H2
theorem Fr.write {G H : Hp} {l : Addr} {o : HO} : Fr G H G (upd H l o) [l] := ⟨Ex.refl _, fun a u h1 h2 => by rw [upd_ne (fun z => h2 (by rw [z]; exact List.mem_cons_self ..))]; exact h1, fun _ _ h => h, fun a h => by
  by_cases q : a = l
  · subst q; rw [upd_same]; simp
  · rw [upd_ne q]; exact h⟩
end Sim

namespace Sim
open PySem L2 Evl
section
variable {K : PySem.W.Frag} {σ : L2.St} {G H G' W W' : Hp} {ta tb te tc : TE} {t u : TT} {α β γ ι κ : Type} {R : Rep α} {S : Rep β} {T : Rep γ} {A : AR ι}

/-! ### mirrors of operations that may lack an answer -/
def mulM (a b : Int) : Option Int := if (-(2 ^ 64) < a ∧ a < 2 ^ 64) ∨ (-(2 ^ 64) < b ∧ b < 2 ^ 64) then some (a * b) else none
def modM (a b : Int) : Option Int := if 0 < b then some (a % b) else none
def fdivM (a b : Int) : Option Int := if 0 < b ∧ b < 1073741824 then some (a / b) else none
def andO (a : Option Bool) (b : Option Bool) : Option Bool := a >>= fun x => bif x then b else some false
def orO (a : Option Bool) (b : Option Bool) : Option Bool := a >>= fun x => bif x then some true else b
theorem rr_add : RR (rI0 fun i j => .int (i + j)) rI rI rI (fun i j => some (i + j)) := rr_I0 fun _ _ _ => rfl
theorem rr_sub : RR (rI0 fun i j => .int (i - j)) rI rI rI (fun i j => some (i - j)) := rr_I0 fun _ _ _ => rfl
theorem rr_mul : RR (L2.rI CMul fun i j => .int (i * j)) rI rI rI mulM := rr_I fun i j z h => by
  unfold mulM at h
  split at h
  · rename_i hc; cases h; exact ⟨hc, fun _ => rfl⟩
  · cases h
theorem rr_mod : RR (L2.rI (fun _ j => 0 < j) fun i j => .int (i % j)) rI rI rI modM := rr_I fun i j z h => by
  unfold modM at h
  split at h
  · rename_i hc; cases h; exact ⟨hc, fun _ => rfl⟩
  · cases h
theorem rr_fdiv : RR (L2.rI CDiv fun i j => .int (i / j)) rI rI rI fdivM := rr_I fun i j z h => by
  unfold fdivM at h
  split at h
  · rename_i hc; cases h; exact ⟨hc, fun _ => rfl⟩
  · cases h
theorem rr_and : RR (rI0 fun i j => .int (Builtin.bitAnd i j)) rI rI rI (fun i j => some (Builtin.bitAnd i j)) := rr_I0 fun _ _ _ => rfl
theorem rr_lt : RR (rI0 fun i j => .bl (decide (i < j))) rI rI rB (fun i j => some (decide (i < j))) := rr_I0 fun _ _ _ => rfl
theorem rr_le : RR (rI0 fun i j => .bl (decide (i ≤ j))) rI rI rB (fun i j => some (decide (i ≤ j))) := rr_I0 fun _ _ _ => rfl
theorem rr_gt : RR (rI0 fun i j => .bl (decide (j < i))) rI rI rB (fun i j => some (decide (j < i))) := rr_I0 fun _ _ _ => rfl
theorem rr_ge : RR (rI0 fun i j => .bl (decide (j ≤ i))) rI rI rB (fun i j => some (decide (j ≤ i))) := rr_I0 fun _ _ _ => rfl
theorem rr_eqI : RR rEq rI rI rB (fun i j => some (i == j)) := fun v w x y z H G hv hw hz e Q q => by
  cases hv; cases hw; cases hz
  exact ⟨rfl, q _ H G (Up.refl e) (congrArg V.bl dec_int)⟩
theorem rr_neI : RR rNe rI rI rB (fun i j => some (!(i == j))) := fun v w x y z H G hv hw hz e Q q => by
  cases hv; cases hw; cases hz
  exact ⟨rfl, q _ H G (Up.refl e) (congrArg (fun b => V.bl (!b)) dec_int)⟩
theorem rr_ixL : RR (rIxL K) (rL R) rI R (fun xs i => atI xs i) := fun v w xs i z H G hv hw hz e Q q => by
  obtain ⟨a, vs, rfl, h2, h3⟩ := hv
  cases hw
  have hz' : (ixN xs.length i).bind (fun j => xs[j]?) = some z := hz
  cases hj : ixN xs.length i with
  | none => rw [hj] at hz'; cases hz'
  | some j =>
    rw [hj] at hz'
    obtain ⟨y, h4, h5⟩ := pr_get h3 (show xs[j]? = some z from hz')
    refine ⟨a, vs, i, y, rfl, rfl, Or.inl (Or.inl (e a _ h2)), ?_, q y H G (Up.refl e) h5⟩
    show (ixN vs.length i).bind (fun j => vs[j]?) = some y
    rw [h3.length, hj]; exact h4
/-- p[0], p[1] of a pair -/
theorem e_fst {m : Option (α × β)} (h : E ta σ G W (rP R S) m) : E (tOp (rIxT K) ta (tC (.int 0))) σ G W R (m >>= fun p => some p.1) := fun z hz H e e' Q q => by
  obtain ⟨x, hx, hz⟩ := bindS hz
  cases hz
  refine h x hx H e e' _ fun v H1 G1 u1 r1 => ?_
  obtain ⟨a, y, w, rfl, h2, h3, h4⟩ := r1
  exact ⟨a, [y, w], 0, y, rfl, rfl, Or.inl (Or.inl (u1.gh a _ h2)), rfl, q y H1 G1 u1 h3⟩
theorem e_snd {m : Option (α × β)} (h : E ta σ G W (rP R S) m) : E (tOp (rIxT K) ta (tC (.int 1))) σ G W S (m >>= fun p => some p.2) := fun z hz H e e' Q q => by
  obtain ⟨x, hx, hz⟩ := bindS hz
  cases hz
  refine h x hx H e e' _ fun v H1 G1 u1 r1 => ?_
  obtain ⟨a, y, w, rfl, h2, h3, h4⟩ := r1
  exact ⟨a, [y, w], 1, w, rfl, rfl, Or.inl (Or.inl (u1.gh a _ h2)), rfl, q w H1 G1 u1 h4⟩
/-- never None -/
def Rep.NN (R : Rep α) : Prop := ∀ {H : Hp} {v : V} {x : α}, R.r H v x → v ≠ .non
theorem nnI : rI.NN := fun h => by rw [show _ = V.int _ from h]; simp
theorem nnP : (rP R S).NN := fun ⟨a, _, _, h, _⟩ => by rw [h]; simp
theorem rr_isN (nn : R.NN) : RR (fun x y H Q => y = .non ∧ Q (.bl (decide (x = .non))) H) (rO R) rU rB (fun o _ => some o.isNone) := fun v w o y z H G hv hw hz e Q q => by
  cases hz
  refine ⟨hw, q _ H G (Up.refl e) ?_⟩
  cases o with
  | none => have : v = .non := hv; subst this; rfl
  | some x => exact congrArg V.bl (decide_eq_false (nn hv))
theorem rr_notN (nn : R.NN) : RR (fun x y H Q => y = .non ∧ Q (.bl (!decide (x = .non))) H) (rO R) rU rB (fun o _ => some o.isSome) := fun v w o y z H G hv hw hz e Q q => by
  cases hz
  refine ⟨hw, q _ H G (Up.refl e) ?_⟩
  cases o with
  | none => have : v = .non := hv; subst this; rfl
  | some x => exact congrArg (fun b => V.bl (!b)) (decide_eq_false (nn hv))
/-- flat values: in -/
structure FlR (R : Rep α) (eq : α → α → Bool) : Prop where
  fl : ∀ {H : Hp} {v : V} {x : α}, R.r H v x → flatV v = true
  eq : ∀ {H H' : Hp} {v w : V} {x y : α}, R.r H v x → R.r H' w y → eqV v w = eq x y
theorem flI : FlR rI (fun a b => a == b) := ⟨fun h => by rw [show _ = V.int _ from h]; rfl, fun h h' => by rw [show _ = V.int _ from h, show _ = V.int _ from h']; rfl⟩
theorem pr_inV {eq : α → α → Bool} (f : FlR R eq) {H H' : Hp} {v : V} {x : α} (hv : R.r H' v x) : ∀ {vs : List V} {xs : List α}, Paired (R.r H) vs xs → inV v vs = xs.any (fun y => eq y x) ∧ vs.all flatV = true
  | _, _, .nil => ⟨rfl, rfl⟩
  | _, _, .cons r t => by
    obtain ⟨h1, h2⟩ := pr_inV f hv t
    refine ⟨?_, ?_⟩
    · show (eqV _ v || _) = (eq _ x || _)
      rw [f.eq r hv]; exact congrArg _ h1
    · show (flatV _ && _) = true
      rw [f.fl r]; exact h2
theorem rr_ninL {eq : α → α → Bool} (f : FlR R eq) : RR (rIn K true) R (rL R) rB (fun x xs => some (!xs.any fun y => eq y x)) := fun v w x xs z H G hv hw hz e Q q => by
  cases hz
  obtain ⟨a, vs, rfl, h2, h3⟩ := hw
  obtain ⟨h4, h5⟩ := pr_inV f hv h3
  refine ⟨a, vs, rfl, Or.inl (Or.inl (Or.inl (e a _ h2))), f.fl hv, h5, q _ H G (Up.refl e) (congrArg V.bl ?_)⟩
  exact congrArg (fun b => !b) h4

/-! ### and, or, not, if -/
theorem e_andV {a b : Option Bool} (h1 : E ta σ G W rB a) (h2 : E tb σ G W rB b) : E (tAndV ta tb) σ G W rB (andO a b) := fun z hz H e e' Q q => by
  obtain ⟨x, hx, hz⟩ := bindS hz
  refine h1 x hx H e e' _ fun v H1 G1 u1 r1 => ⟨x, r1, ?_⟩
  cases x with
  | true => exact (h2.mono u1.gg (e'.trans u1.hh)) z hz H1 u1.gh (Ex.refl _) Q fun v H2 G2 u2 r2 => q v H2 G2 (u1.trans u2) r2
  | false => cases hz; exact q _ H1 G1 u1 rfl
theorem e_orV {a b : Option Bool} (h1 : E ta σ G W rB a) (h2 : E tb σ G W rB b) : E (tOrV ta tb) σ G W rB (orO a b) := fun z hz H e e' Q q => by
  obtain ⟨x, hx, hz⟩ := bindS hz
  refine h1 x hx H e e' _ fun v H1 G1 u1 r1 => ⟨x, r1, ?_⟩
  cases x with
  | false => exact (h2.mono u1.gg (e'.trans u1.hh)) z hz H1 u1.gh (Ex.refl _) Q fun v H2 G2 u2 r2 => q v H2 G2 (u1.trans u2) r2
  | true => cases hz; exact q _ H1 G1 u1 rfl
theorem e_notV {a : Option Bool} (h1 : E ta σ G W rB a) : E (tNotV ta) σ G W rB (a >>= fun x => some (!x)) := fun z hz H e e' Q q => by
  obtain ⟨x, hx, hz⟩ := bindS hz
  cases hz
  exact h1 x hx H e e' _ fun v H1 G1 u1 r1 => ⟨x, r1, q _ H1 G1 u1 rfl⟩
theorem et_T {m : Option Bool} (h : E te σ W W rB m) : ET (tTest te) σ W m := fun b hb H e Q q => h b hb H e e _ fun v H2 G2 u r => ⟨b, r, q H2 u.hh⟩
theorem et_B {m : Option Bool} (h : E te σ W W rB m) : ET (tB te) σ W m := fun b hb H e Q q => h b hb H e e _ fun v H2 G2 u r => ⟨b, r, q H2 u.hh⟩
theorem et_and {a b : Option Bool} (h1 : ET t σ G a) (h2 : ET u σ G b) : ET (tAnd t u) σ G (andO a b) := fun z hz H e Q q => by
  obtain ⟨x, hx, hz⟩ := bindS hz
  refine h1 x hx H e _ fun H1 e1 => ?_
  cases x with
  | true => exact h2 z hz H1 (e.trans e1) Q fun H2 e2 => q H2 (e1.trans e2)
  | false => cases hz; exact q H1 e1
theorem et_or {a b : Option Bool} (h1 : ET t σ G a) (h2 : ET u σ G b) : ET (tOr t u) σ G (orO a b) := fun z hz H e Q q => by
  obtain ⟨x, hx, hz⟩ := bindS hz
  refine h1 x hx H e _ fun H1 e1 => ?_
  cases x with
  | false => exact h2 z hz H1 (e.trans e1) Q fun H2 e2 => q H2 (e1.trans e2)
  | true => cases hz; exact q H1 e1
theorem et_not {a : Option Bool} (h1 : ET t σ G a) : ET (tNot t) σ G (a >>= fun x => some (!x)) := fun z hz H e Q q => by
  obtain ⟨x, hx, hz⟩ := bindS hz
  cases hz
  exact h1 x hx H e _ fun H1 e1 => q H1 e1

/-! ### arguments, calls -/
theorem ea_nil : EA tNil σ G W aN (some ()) := fun x hx H e e' Q q => q [] H G (Up.refl e) rfl
theorem ea_cons {tr : TA} {ma : Option α} {mr : Option ι} (h : E ta σ G W R ma) (hr : EA tr σ G W A mr) : EA (tCons ta tr) σ G W (aC R A) (ma >>= fun x => mr >>= fun y => some (x, y)) := fun z hz H e e' Q q => by
  obtain ⟨x, hx, hz⟩ := bindS hz
  obtain ⟨y, hy, hz⟩ := bindS hz
  cases hz
  refine h x hx H e e' _ fun v H1 G1 u1 r1 => ?_
  refine (hr.mono u1.gg (e'.trans u1.hh)) y hy H1 u1.gh (Ex.refl _) _ fun w H2 G2 u2 r2 => ?_
  exact q (v :: w) H2 G2 (u1.trans u2) ⟨v, w, rfl, R.mono u2.gg r1, r2⟩
def RC (r : List V → Hp → VK → Prop) (A : AR ι) (T : Rep γ) (f : ι → Option γ) : Prop :=
  ∀ vs i z H G, A.r G vs i → f i = some z → Ex G H → ∀ Q : VK, (∀ u H2 G2, Up G H G2 H2 → T.r G2 u z → Q u H2) → r vs H Q
def RCL (r : List V → Hp → VK → Prop) (A : AR ι) (T : Rep γ) (f : ι → Option (List γ)) : Prop :=
  ∀ vs i z H G, A.r G vs i → f i = some z → Ex G H → ∀ Q : VK, (∀ p H2 G2, H p = none → Up G H G2 H2 → Wd G2 H2 [(p, cL T z)] → Q (.ref p) H2) → r vs H Q
theorem e_cb {r : List V → Hp → VK → Prop} {f : ι → Option γ} {ta : TA} {m : Option ι} (hr : RC r A T f) (ha : EA ta σ G W A m) : E (tCB r ta) σ G W T (m >>= f) := fun z hz H e e' Q q => by
  obtain ⟨i, hi, hz⟩ := bindS hz
  refine ha i hi H e e' _ fun vs H1 G1 u1 r1 => ?_
  exact hr vs i z H1 G1 r1 hz u1.gh Q fun u H2 G2 u2 r2 => q u H2 G2 (u1.trans u2) r2
theorem el_cb {r : List V → Hp → VK → Prop} {f : ι → Option (List γ)} {ta : TA} {m : Option ι} (hr : RCL r A T f) (ha : EA ta σ G W A m) : EL (tCB r ta) σ G W T (m >>= f) := fun z hz H e e' Q q => by
  obtain ⟨i, hi, hz⟩ := bindS hz
  refine ha i hi H e e' _ fun vs H1 G1 u1 r1 => ?_
  exact hr vs i z H1 G1 r1 hz u1.gh Q fun p H2 G2 hp u2 w => q p H2 G2 (fresh_back u1.hh hp) (u1.trans u2) w
theorem e_call {f : ι → Option γ} {ta : TA} {m : Option ι} {X : XK} (ha : EA ta σ G W A m) : E (tCall (PF A T f) [] X ta) σ G W T (m >>= f) := fun z hz H e e' Q q => by
  obtain ⟨i, hi, hz⟩ := bindS hz
  refine ha i hi H e e' _ fun vs H1 G1 u1 r1 => ?_
  rw [List.append_nil]
  exact ⟨G1, i, z, u1.gh, r1, hz, fun v H2 G2 u2 r2 => q v H2 G2 (u1.trans u2) r2⟩
theorem el_call {f : ι → Option (List γ)} {ta : TA} {m : Option ι} {X : XK} (ha : EA ta σ G W A m) : EL (tCall (PL A T f) [] X ta) σ G W T (m >>= f) := fun z hz H e e' Q q => by
  obtain ⟨i, hi, hz⟩ := bindS hz
  refine ha i hi H e e' _ fun vs H1 G1 u1 r1 => ?_
  rw [List.append_nil]
  exact ⟨G1, i, z, u1.gh, r1, hz, fun p H2 G2 hp u2 w => q p H2 G2 (fresh_back u1.hh hp) (u1.trans u2) w⟩

/-! ### built-ins -/
theorem sz_l {n : Nat} (h : sz n = true) : n < sizeLine := sz_lt (of_decide_eq_true h)
abbrev rLn (K : PySem.W.Frag) : List V → Hp → VK → Prop := fun xs H Q => ∃ p ys, xs = [.ref p] ∧ (SqL K H p ys ∨ SqT K H p ys) ∧ Q (.int ys.length) H
theorem rc_lenL : RC (rLn K) (aC (rL R) aN) rI (fun i => some (i.1.length : Int)) := fun vs i z H G hv hz e Q q => by
  cases hz
  obtain ⟨v, ws, rfl, ⟨a, us, rfl, h2, h3⟩, rfl⟩ := hv
  refine ⟨a, us, rfl, Or.inl (Or.inl (Or.inl (e a _ h2))), q _ H G (Up.refl e) ?_⟩
  show V.int _ = V.int _
  rw [h3.length]
abbrev rLs (K : PySem.W.Frag) : List V → Hp → VK → Prop := fun xs H Q => ∃ p ys, xs = [.ref p] ∧ (SqL K H p ys ∨ SqT K H p ys) ∧ ∀ l, H l = none → Q (.ref l) (upd H l (.lst ys))
theorem wd_new {vs : List V} {xs : List α} {p : Addr} (e : Ex G H) (n : H p = none) (h : Paired (R.r G) vs xs) : Wd G (upd H p (.lst vs)) [(p, cL R xs)] := (Wd.nil e).new n ⟨vs, rfl, h⟩
theorem up_new {p : Addr} {o : HO} (e : Ex G H) (n : H p = none) : Up G H G (upd H p o) := Up.same e (Ex.new n)
theorem rc_listL : RCL (rLs K) (aC (rL R) aN) R (fun i => some i.1) := fun vs i z H G hv hz e Q q => by
  cases hz
  obtain ⟨v, ws, rfl, ⟨a, us, rfl, h2, h3⟩, rfl⟩ := hv
  exact ⟨a, us, rfl, Or.inl (Or.inl (Or.inl (e a _ h2))), fun l hl => q l _ G hl (up_new e hl) (wd_new e hl h3)⟩
abbrev rAbs : List V → Hp → VK → Prop := fun xs H Q => ∃ i, xs = [.int i] ∧ Q (.int (if i < 0 then -i else i)) H
theorem rc_abs : RC rAbs (aC rI aN) rI (fun i => some (if i.1 < 0 then -i.1 else i.1)) := fun vs i z H G hv hz e Q q => by
  cases hz
  obtain ⟨v, ws, rfl, rfl, rfl⟩ := hv
  exact ⟨_, rfl, q _ H G (Up.refl e) rfl⟩
abbrev rMx : List V → Hp → VK → Prop := fun xs H Q => ∃ i j, xs = [.int i, .int j] ∧ Q (.int (if j > i then j else i)) H
abbrev rMn : List V → Hp → VK → Prop := fun xs H Q => ∃ i j, xs = [.int i, .int j] ∧ Q (.int (if j < i then j else i)) H
theorem rc_max2 : RC rMx (aC rI (aC rI aN)) rI (fun i => some (if i.2.1 > i.1 then i.2.1 else i.1)) := fun vs i z H G hv hz e Q q => by
  cases hz
  obtain ⟨v, ws, rfl, rfl, v2, ws2, rfl, rfl, rfl⟩ := hv
  exact ⟨_, _, rfl, q _ H G (Up.refl e) rfl⟩
theorem rc_min2 : RC rMn (aC rI (aC rI aN)) rI (fun i => some (if i.2.1 < i.1 then i.2.1 else i.1)) := fun vs i z H G hv hz e Q q => by
  cases hz
  obtain ⟨v, ws, rfl, rfl, v2, ws2, rfl, rfl, rfl⟩ := hv
  exact ⟨_, _, rfl, q _ H G (Up.refl e) rfl⟩
abbrev rInt : List V → Hp → VK → Prop := fun xs H Q => (∃ i, xs = [.int i] ∧ Q (.int i) H) ∨ ∃ k, xs = [.bl k] ∧ Q (.int (if k then 1 else 0)) H
theorem rc_intI : RC rInt (aC rI aN) rI (fun i => some i.1) := fun vs i z H G hv hz e Q q => by
  cases hz
  obtain ⟨v, ws, rfl, rfl, rfl⟩ := hv
  exact Or.inl ⟨_, rfl, q _ H G (Up.refl e) rfl⟩
theorem rc_intB : RC rInt (aC rB aN) rI (fun i => some (if i.1 then 1 else 0)) := fun vs i z H G hv hz e Q q => by
  cases hz
  obtain ⟨v, ws, rfl, rfl, rfl⟩ := hv
  exact Or.inr ⟨_, rfl, q _ H G (Up.refl e) rfl⟩
theorem pr_ints {H : Hp} : ∀ {vs : List V} {xs : List Int}, Paired (rI.r H) vs xs → vs = xs.map V.int
  | _, _, .nil => rfl
  | _, _, .cons r t => by rw [show _ = V.int _ from r, pr_ints t]; rfl
theorem ints_pr {H : Hp} : ∀ (xs : List Int), Paired (rI.r H) (xs.map V.int) xs
  | [] => .nil
  | x :: xs => .cons rfl (ints_pr xs)
/-- the sorted list, the least, the greatest: plain mirrors -/
def insI (x : Int) : List Int → List Int
  | [] => [x]
  | y :: ys => if x ≤ y then x :: y :: ys else y :: insI x ys
def srtI : List Int → List Int
  | [] => []
  | x :: xs => insI x (srtI xs)
theorem insI_perm (x : Int) : ∀ ys, (insI x ys).Perm (x :: ys)
  | [] => .refl _
  | y :: ys => by
    unfold insI
    split
    · exact .refl _
    · exact (List.Perm.cons y (insI_perm x ys)).trans (.swap x y ys)
theorem srtI_perm : ∀ xs, (srtI xs).Perm xs
  | [] => .refl _
  | x :: xs => (insI_perm x _).trans (.cons x (srtI_perm xs))
theorem insI_sorted (x : Int) : ∀ {ys : List Int}, ys.Pairwise (· ≤ ·) → (insI x ys).Pairwise (· ≤ ·)
  | [], _ => by simp [insI]
  | y :: ys, h => by
    unfold insI
    split
    · rename_i hxy
      refine List.pairwise_cons.mpr ⟨fun z hz => ?_, h⟩
      rcases List.mem_cons.mp hz with hz | hz
      · subst hz; exact hxy
      · exact Int.le_trans hxy ((List.pairwise_cons.mp h).1 z hz)
    · rename_i hxy
      refine List.pairwise_cons.mpr ⟨fun z hz => ?_, insI_sorted x (List.pairwise_cons.mp h).2⟩
      rcases List.mem_cons.mp ((insI_perm x ys).mem_iff.mp hz) with hz | hz
      · subst hz; omega
      · exact (List.pairwise_cons.mp h).1 z hz
theorem srtI_sorted : ∀ xs, (srtI xs).Pairwise (· ≤ ·)
  | [] => List.Pairwise.nil
  | x :: xs => insI_sorted x (srtI_sorted xs)
theorem srt_uniq : ∀ {xs ys : List Int}, xs.Perm ys → xs.Pairwise (· ≤ ·) → ys.Pairwise (· ≤ ·) → xs = ys
  | [], ys, p, _, _ => by simpa using p.symm.eq_nil
  | x :: xs, [], p, _, _ => by simpa using p.eq_nil
  | x :: xs, y :: ys, p, hx, hy => by
    have h1 : x ≤ y := by
      rcases List.mem_cons.mp (p.symm.subset (List.mem_cons_self ..) : y ∈ x :: xs) with h | h
      · omega
      · exact (List.pairwise_cons.mp hx).1 y h
    have h2 : y ≤ x := by
      rcases List.mem_cons.mp (p.subset (List.mem_cons_self ..) : x ∈ y :: ys) with h | h
      · omega
      · exact (List.pairwise_cons.mp hy).1 x h
    have e : x = y := by omega
    subst e
    rw [srt_uniq (List.Perm.cons_inv p) (List.pairwise_cons.mp hx).2 (List.pairwise_cons.mp hy).2]
theorem rc_sorted : RCL (rSorted K) (aC (rL rI) aN) rI (fun i => if i.1.length < 64 then some (srtI i.1) else none) := fun vs i z H G hv hz e Q q => by
  obtain ⟨v, ws, rfl, ⟨a, us, rfl, h2, h3⟩, rfl⟩ := hv
  have hz : (if i.1.length < 64 then some (srtI i.1) else none) = some z := hz
  split at hz
  · rename_i hl
    cases hz
    have h3' := pr_ints h3
    subst h3'
    refine ⟨a, i.1, rfl, Or.inl (Or.inl (e a _ h2)), hl, fun ns' p hp hs hn => ?_⟩
    have : ns' = srtI i.1 := srt_uniq (hp.trans (srtI_perm _).symm) hs (srtI_sorted _)
    subst this
    exact q p _ G hn (up_new e hn) (wd_new e hn (ints_pr _))
  · cases hz
def maxL : List Int → Option Int
  | [] => none
  | [x] => some x
  | x :: y :: ys => (maxL (y :: ys)).map fun m => if m > x then m else x
theorem maxL_ok : ∀ {xs : List Int} {m : Int}, maxL xs = some m → m ∈ xs ∧ ∀ y ∈ xs, y ≤ m
  | [x], m, h => by cases h; exact ⟨List.mem_cons_self .., fun y hy => by rw [List.mem_singleton.mp hy]; exact Int.le_refl _⟩
  | x :: y :: ys, m, h => by
    unfold maxL at h
    cases e : maxL (y :: ys) with
    | none => rw [e] at h; cases h
    | some k =>
      obtain ⟨h1, h2⟩ := maxL_ok e
      rw [e] at h
      have h' : (if k > x then k else x) = m := Option.some.inj h
      split at h'
      · subst h'
        exact ⟨List.mem_cons_of_mem _ h1, fun z hz => by
          rcases List.mem_cons.mp hz with hz | hz
          · omega
          · exact h2 z hz⟩
      · subst h'
        exact ⟨List.mem_cons_self .., fun z hz => by
          rcases List.mem_cons.mp hz with hz | hz
          · omega
          · have := h2 z hz; omega⟩
theorem rc_maxL : RC (rMax K) (aC (rL rI) aN) rI (fun i => maxL i.1) := fun vs i z H G hv hz e Q q => by
  obtain ⟨v, ws, rfl, ⟨a, us, rfl, h2, h3⟩, rfl⟩ := hv
  have h3' := pr_ints h3
  subst h3'
  obtain ⟨m1, m2⟩ := maxL_ok hz
  refine ⟨a, i.1, rfl, Or.inl (Or.inl (e a _ h2)), List.length_pos_of_mem m1, fun m hm hle => ?_⟩
  have : m = z := by have := hle z m1; have := m2 m hm; omega
  subst this
  exact q _ H G (Up.refl e) rfl

/-! ### displays -/
theorem e_pair {ma : Option α} {mb : Option β} (ha : E ta σ G W R ma) (hb : E tb σ G W S mb) : E (tTup (tCons ta (tCons tb tNil))) σ G W (rP R S) (ma >>= fun x => mb >>= fun y => some (x, y)) := fun z hz H e e' Q q => by
  obtain ⟨x, hx, hz⟩ := bindS hz
  obtain ⟨y, hy, hz⟩ := bindS hz
  cases hz
  refine ha x hx H e e' _ fun v H1 G1 u1 r1 => ?_
  refine (hb.mono u1.gg (e'.trans u1.hh)) y hy H1 u1.gh (Ex.refl _) _ fun w H2 G2 u2 r2 => ?_
  refine ⟨by show 2 ≤ sizeLine; decide, fun p hp => q _ _ _ ((u1.trans u2).trans (Up.lay u2.gh hp)) ⟨p, v, w, rfl, upd_same, R.mono (u2.gg.trans (Ex.new (fresh_back u2.gh hp))) r1, S.mono (Ex.new (fresh_back u2.gh hp)) r2⟩⟩
end
end Sim

namespace Sim
open PySem L2 Evl

/-! ### mirrors of loops -/
inductive Stp (σ ρ : Type) where
  | nx (s : σ)
  | br (s : σ)
  | rt (r : ρ)
section
variable {α σ ρ : Type}
def stpK (k : σ → Option (σ ⊕ ρ)) : Stp σ ρ → Option (σ ⊕ ρ)
  | .nx s => k s
  | .br s => some (.inl s)
  | .rt r => some (.inr r)
def forL (body : α → σ → Option (Stp σ ρ)) : List α → σ → Option (σ ⊕ ρ)
  | [], s => some (.inl s)
  | x :: xs, s => body x s >>= stpK (forL body xs)
def forS (body : α → σ → Option σ) : List α → σ → Option σ
  | [], s => some s
  | x :: xs, s => body x s >>= forS body xs
theorem drop_at {xs : List α} {i : Nat} {x : α} (h : xs[i]? = some x) : xs.drop i = x :: xs.drop (i + 1) := by
  obtain ⟨hl, e⟩ := List.getElem?_eq_some_iff.mp h
  rw [List.drop_eq_getElem_cons hl, e]
theorem forL_at {body : α → σ → Option (Stp σ ρ)} {xs : List α} {i : Nat} {x : α} {s : σ} {r : σ ⊕ ρ} (h : xs[i]? = some x) (hm : forL body (xs.drop i) s = some r) :
    ∃ t, body x s = some t ∧ stpK (forL body (xs.drop (i + 1))) t = some r := by
  rw [drop_at h] at hm
  exact bindS hm
theorem forL_end {body : α → σ → Option (Stp σ ρ)} {xs : List α} {s : σ} {r : σ ⊕ ρ} (hm : forL body (xs.drop xs.length) s = some r) : .inl s = r := by
  rw [List.drop_length] at hm
  exact Option.some.inj hm
theorem forS_at {body : α → σ → Option σ} {xs : List α} {i : Nat} {x : α} {s r : σ} (h : xs[i]? = some x) (hm : forS body (xs.drop i) s = some r) :
    ∃ t, body x s = some t ∧ forS body (xs.drop (i + 1)) t = some r := by
  rw [drop_at h] at hm
  exact bindS hm
theorem forS_end {body : α → σ → Option σ} {xs : List α} {s r : σ} (hm : forS body (xs.drop xs.length) s = some r) : s = r := by
  rw [List.drop_length] at hm
  exact Option.some.inj hm
end
/-- range(lo, hi) -/
def rng (lo hi : Int) : List Int := (List.range (hi - lo).toNat).map fun (i : Nat) => lo + (i : Int)
theorem rng_get {lo hi : Int} {i : Nat} (h : i < (hi - lo).toNat) : (rng lo hi)[i]? = some (lo + i) := by
  unfold rng
  rw [List.getElem?_map, List.getElem?_range h]
  rfl
theorem rng_len (lo hi : Int) : (rng lo hi).length = (hi - lo).toNat := by
  unfold rng
  rw [List.length_map, List.length_range]
def rngM (lo hi : Int) : Option (List Int) := if -100000 ≤ lo ∧ lo ≤ 100000 ∧ -100000 ≤ hi ∧ hi ≤ 100000 then some (rng lo hi) else none

/-! ### the world of a def -/
section
variable {K : PySem.W.Frag} {σ : L2.St} {G0 H0 G H G2 H2 : Hp} {ls : List Addr} {cs : Cs} {l : Addr} {cp cp' : CP} {ta tb te tc : TE} {t u : TT} {α β γ ι κ : Type} {R : Rep α} {S : Rep β} {T : Rep γ} {A : AR ι}
theorem Wo.start (e : Ex G H) : Wo G H [] G H [] := ⟨Wd.nil e, Fr.refl, fun _ h => absurd h List.not_mem_nil⟩
theorem Wo.startC (w : Wd G H cs) : Wo G H (cs.map (·.1)) G H cs := ⟨w, Fr.refl, fun c h => .inl (List.mem_map_of_mem (f := (·.1)) h)⟩
theorem Wo.rlAt {i : Nat} {xs : List α} (w : Wo G0 H0 ls G H cs) (h : cs[i]? = some (l, cL R xs)) : (rL R).r H (.ref l) xs := by
  obtain ⟨h1, o, h2, vs, rfl, h3⟩ := w.w.getAt h
  exact ⟨l, vs, rfl, h2, Paired.mapP h3 fun _ _ => R.mono w.ex⟩
theorem set_map {i : Nat} {c : Addr × CP} (h : cs[i]? = some c) : (cs.set i (c.1, cp')).map (·.1) = cs.map (·.1) := by
  rw [List.map_set]
  have : (cs.map (·.1))[i]? = some c.1 := by rw [List.getElem?_map, h]; rfl
  obtain ⟨hl, e⟩ := List.getElem?_eq_some_iff.mp this
  conv => lhs; rw [← e]
  exact List.set_getElem_self hl
theorem mem_set_cell {i : Nat} {c : Addr × CP} (nd : (cs.map (·.1)).Nodup) (h : cs[i]? = some (l, cp)) (hc : c ∈ cs.set i (l, cp')) : c = (l, cp') ∨ (c ∈ cs ∧ c.1 ≠ l) := by
  obtain ⟨j, hj, e⟩ := List.getElem_of_mem hc
  by_cases q : i = j
  · subst q; left; rw [← e]; simp
  · right
    rw [List.getElem_set_ne q] at e
    have hj' : j < cs.length := by rw [List.length_set] at hj; exact hj
    refine ⟨e ▸ List.getElem_mem hj', fun z => q ?_⟩
    have h1 : (cs.map (·.1))[i]? = some l := by rw [List.getElem?_map, h]; rfl
    have h2 : (cs.map (·.1))[j]? = some l := by rw [List.getElem?_map, List.getElem?_eq_getElem hj', e]; exact congrArg some z
    exact nodup_ix nd h1 h2
theorem Wo.writeAt {i : Nat} (w : Wo G0 H0 ls G H cs) (h : cs[i]? = some (l, cp)) {o : HO} (hp : cp'.p G o) : Wo G0 H0 ls G (upd H l o) (cs.set i (l, cp')) := by
  obtain ⟨h1, o1, h2, h3⟩ := w.w.getAt h
  have hl : l ∈ ls ∨ H0 l = none := w.lo _ (List.mem_of_getElem? h)
  refine ⟨⟨fun a u e => ?_, fun c hc => ?_, ?_⟩, w.f.put hl, fun c hc => ?_⟩
  · rw [upd_ne (fun z => by subst z; rw [h1] at e; cases e)]; exact w.ex a u e
  · rcases mem_set_cell w.w.nd h hc with hc | ⟨hc, ne⟩
    · subst hc; exact ⟨h1, o, upd_same, hp⟩
    · obtain ⟨k1, o', k2, k3⟩ := w.w.at_ c hc
      exact ⟨k1, o', by rw [upd_ne ne]; exact k2, k3⟩
  · rw [set_map (c := (l, cp)) h]; exact w.w.nd
  · rcases mem_set_cell w.w.nd h hc with hc | ⟨hc, ne⟩
    · subst hc; exact hl
    · exact w.lo c hc
/-- a new list made by an expression becomes a cell -/
theorem Wo.newL {p : Addr} {xs : List α} (w : Wo G0 H0 ls G H cs) (n : H p = none) (u : Up G H G2 H2) (w2 : Wd G2 H2 [(p, cL R xs)]) : Wo G0 H0 ls G2 H2 ((p, cL R xs) :: cs) := by
  have n0 : H0 p = none := by
    cases q : H0 p with
    | none => rfl
    | some o => exact absurd n (w.f.st p (by rw [q]; simp))
  have w3 := w.up u
  refine ⟨⟨w3.ex, fun c hc => ?_, ?_⟩, w3.f, fun c hc => ?_⟩
  · rcases List.mem_cons.mp hc with hc | hc
    · subst hc; exact w2.head
    · exact w3.w.at_ c hc
  · refine List.nodup_cons.mpr ⟨fun hm => ?_, w.w.nd⟩
    obtain ⟨c, hc, e⟩ := List.mem_map.mp hm
    obtain ⟨_, o', h2, _⟩ := w.w.at_ c hc
    exact ne_of_none h2 n e
  · rcases List.mem_cons.mp hc with hc | hc
    · subst hc; exact .inr n0
    · exact w.lo c hc
theorem Wo.dropAt (w : Wo G0 H0 ls G H cs) (i : Nat) : Wo G0 H0 ls G H (cs.eraseIdx i) := ⟨⟨w.ex, fun c hc => w.w.at_ c (List.mem_of_mem_eraseIdx hc), 
  List.Pairwise.sublist ((List.eraseIdx_sublist cs i).map (·.1)) w.w.nd⟩, w.f, fun c hc => w.lo c (List.mem_of_mem_eraseIdx hc)⟩
/-- a list cell of the def's own becomes data -/
theorem Wo.freezeAt {i : Nat} {xs : List α} (w : Wo G0 H0 ls G H cs) (h : cs[i]? = some (l, cL R xs)) (hl : H0 l = none) : ∃ G2, Wo G0 H0 ls G2 H (cs.eraseIdx i) ∧ Ex G G2 ∧ (rL R).r G2 (.ref l) xs := by
  obtain ⟨h1, o, h2, vs, rfl, h3⟩ := w.w.getAt h
  refine ⟨upd G l (.lst vs), ⟨⟨fun a u e => ?_, fun c hc => ?_, ?_⟩, ⟨w.f.gg.trans (Ex.new h1), w.f.fr, fun a k1 k2 => ?_, w.f.st⟩, fun c hc => w.lo c (List.mem_of_mem_eraseIdx hc)⟩, Ex.new h1, l, vs, rfl, upd_same, Paired.mapP h3 fun _ _ => R.mono (Ex.new h1)⟩
  · by_cases q : a = l
    · subst q; rw [upd_same] at e; cases e; exact h2
    · rw [upd_ne q] at e; exact w.ex a u e
  · obtain ⟨k1, o', k2, k3⟩ := w.w.at_ c (List.mem_of_mem_eraseIdx hc)
    obtain ⟨j, hj, e⟩ := List.getElem?_of_mem hc |>.imp fun _ h => (⟨trivial, h⟩ : True ∧ _)
    have ne : c.1 ≠ l := fun z => by
      rw [List.getElem?_eraseIdx] at e
      have hi : (cs.map (·.1))[i]? = some l := by rw [List.getElem?_map, h]; rfl
      split at e
      · rename_i hlt
        have : (cs.map (·.1))[j]? = some l := by rw [List.getElem?_map, e]; exact congrArg some z
        have := nodup_ix w.w.nd hi this
        omega
      · rename_i hlt
        have : (cs.map (·.1))[j + 1]? = some l := by rw [List.getElem?_map, e]; exact congrArg some z
        have := nodup_ix w.w.nd hi this
        omega
    exact ⟨by rw [upd_ne ne]; exact k1, o', k2, c.2.mono (Ex.new h1) k3⟩
  · exact List.Pairwise.sublist ((List.eraseIdx_sublist cs i).map (·.1)) w.w.nd
  · have ne : a ≠ l := fun z => by subst z; exact k1 hl
    rw [upd_ne ne]; exact w.f.nw a k1 k2
/-- behind a call that changed the i-th cell alone -/
theorem Wo.call1 {i : Nat} (w : Wo G0 H0 ls G H cs) (h : cs[i]? = some (l, cp)) (f : Fr G H G2 H2 [l]) (w2 : Wd G2 H2 [(l, cp')]) : Wo G0 H0 ls G2 H2 (cs.set i (l, cp')) := by
  have hl : l ∈ ls ∨ H0 l = none := w.lo _ (List.mem_of_getElem? h)
  refine ⟨⟨w2.ex, fun c hc => ?_, by rw [set_map (c := (l, cp)) h]; exact w.w.nd⟩, ⟨w.f.gg.trans f.gg, fun a o h1 h2 => ?_, fun a h1 h2 => f.nw a (w.f.st a h1) (w.f.nw a h1 h2), fun a h1 => f.st a (w.f.st a h1)⟩, fun c hc => ?_⟩
  · rcases mem_set_cell w.w.nd h hc with hc | ⟨hc, ne⟩
    · subst hc; exact w2.head
    · obtain ⟨k1, o', k2, k3⟩ := w.w.at_ c hc
      exact ⟨f.nw _ (by rw [k2]; simp) k1, o', f.fr _ _ k2 (fun z => ne (List.mem_singleton.mp z)), c.2.mono f.gg k3⟩
  · refine f.fr a o (w.f.fr a o h1 h2) fun z => ?_
    rw [List.mem_singleton.mp z] at h1 h2
    rcases hl with q | q
    · exact h2 q
    · rw [q] at h1; cases h1
  · rcases mem_set_cell w.w.nd h hc with hc | ⟨hc, ne⟩
    · subst hc; exact hl
    · exact w.lo c hc
theorem Wo.sub1 {i : Nat} (w : Wo G0 H0 ls G H cs) (h : cs[i]? = some (l, cp)) : Wd G H [(l, cp)] := ⟨w.ex, fun c hc => by
  rw [List.mem_singleton.mp hc]; exact w.w.at_ _ (List.mem_of_getElem? h), List.nodup_cons.mpr ⟨List.not_mem_nil, List.nodup_nil⟩⟩
/-- the ends of a def -/
theorem Wo.upE (w : Wo G0 H0 [] G H cs) : Up G0 H0 G H := ⟨w.f.gg, w.ex, fun a o h => w.f.fr a o h List.not_mem_nil, w.f.nw⟩
end
end Sim

namespace Sim
open PySem L2 Evl
section
variable {K : PySem.W.Frag} {σ : L2.St} {G0 H0 G H G2 H2 W : Hp} {ls : List Addr} {cs : Cs} {l : Addr} {cp cp' : CP} {ta tb te tc : TE} {t u : TT} {α β γ ι κ : Type} {R : Rep α} {S : Rep β} {T : Rep γ} {A : AR ι} {D : Ends} {tu tv tz : TS} {g : TG}

/-! ### expressions in the world -/
theorem c_e {m : Option α} {x : α} {Q : VK} (w : Wo G0 H0 ls G H cs) (h : E te σ G H R m) (hm : m = some x) (k : ∀ v H2 G2, Wo G0 H0 ls G2 H2 cs → Ex G G2 → R.r G2 v x → Q v H2) : te σ H Q :=
  h x hm H w.ex (Ex.refl _) Q fun v H2 G2 u r => k v H2 G2 (w.up u) u.gg r
/-- scalars: the value is written out, the data heap stays -/
theorem c_i {m : Option Int} {x : Int} {Q : VK} (w : Wo G0 H0 ls G H cs) (h : E te σ G H rI m) (hm : m = some x) (k : ∀ H2, Wo G0 H0 ls G H2 cs → Q (.int x) H2) : te σ H Q :=
  h x hm H w.ex (Ex.refl _) Q fun v H2 G2 u r => by cases r; exact k H2 (w.sc u.hh)
theorem c_l {m : Option (List α)} {x : List α} {Q : VK} (w : Wo G0 H0 ls G H cs) (h : EL te σ G H R m) (hm : m = some x) (k : ∀ p H2 G2, H0 p = none → Wo G0 H0 ls G2 H2 ((p, cL R x) :: cs) → Ex G G2 → Q (.ref p) H2) : te σ H Q :=
  h x hm H w.ex (Ex.refl _) Q fun p H2 G2 hp u w2 => k p H2 G2 (by
    cases q : H0 p with
    | none => rfl
    | some o => exact absurd hp (w.f.st p (by rw [q]; simp))) (w.newL hp u w2) u.gg
theorem c_t {m : Option Bool} {b : Bool} {Q : Bool → Hp → Prop} (w : Wo G0 H0 ls G H cs) (h : ET t σ H m) (hm : m = some b) (k : ∀ H2, Wo G0 H0 ls G H2 cs → Q b H2) : t σ H Q :=
  h b hm H (Ex.refl _) Q fun H2 e => k H2 (w.sc e)
/-- an operation on values that stand -/
theorem c_rr {r : R2} {f : α → β → Option γ} {v w' : V} {x : α} {y : β} {z : γ} {Q : VK} (hr : RR r R S T f) (w : Wo G0 H0 ls G H cs) (hv : R.r G v x) (hw : S.r G w' y) (hz : f x y = some z)
    (k : ∀ u H2 G2, Wo G0 H0 ls G2 H2 cs → Ex G G2 → T.r G2 u z → Q u H2) : r v w' H Q := hr v w' x y z H G hv hw hz w.ex Q fun u H2 G2 up r => k u H2 G2 (w.up up) up.gg r
/-! ### a def that changes one cell -/
/-- (l, more) with the cell's items ys: f ys more = (x, ys') -/
abbrev P1 {κ α ι : Type} (A : AR ι) (C : Rep κ) (R : Rep α) (f : List κ → ι → Option (α × List κ)) : Sp := PM (aC rA A) (fun i k => [(i.1, cL C k)]) R (fun i k => f k i.2)
abbrev P1L {κ α ι : Type} (A : AR ι) (C : Rep κ) (R : Rep α) (f : List κ → ι → Option (List α × List κ)) : Sp := PML (aC rA A) (fun i k => [(i.1, cL C k)]) R (fun i k => f k i.2)
theorem c_p1 {C : Rep κ} {f : List κ → ι → Option (α × List κ)} {vs : List V} {i : Nat} {j : ι} {ys ys' : List κ} {x : α} {Q : VK} {X : XK} (w : Wo G0 H0 ls G H cs) (hc : cs[i]? = some (l, cL C ys)) (hv : A.r G vs j) (hz : f ys j = some (x, ys'))
    (k : ∀ v H2 G2, Wo G0 H0 ls G2 H2 (cs.set i (l, cL C ys')) → Ex G G2 → R.r G2 v x → Q v H2) : P1 A C R f (.ref l :: vs) H Q X :=
  ⟨G, (l, j), ys, x, ys', ⟨.ref l, vs, rfl, rfl, hv⟩, w.sub1 hc, hz, fun v H2 G2 fr w2 r => k v H2 G2 (w.call1 hc fr w2) fr.gg r⟩
theorem Wo.call1L {i : Nat} {p : Addr} {cq : CP} (w : Wo G0 H0 ls G H cs) (h : cs[i]? = some (l, cp)) (hp : H p = none) (f : Fr G H G2 H2 [l]) (w2 : Wd G2 H2 [(p, cq), (l, cp')]) : Wo G0 H0 ls G2 H2 ((p, cq) :: cs.set i (l, cp')) := by
  have n0 : H0 p = none := by
    cases q : H0 p with
    | none => rfl
    | some o => exact absurd hp (w.f.st p (by rw [q]; simp))
  have w3 := w.call1 h f w2.tail
  refine ⟨⟨w3.ex, fun c hc => ?_, ?_⟩, w3.f, fun c hc => ?_⟩
  · rcases List.mem_cons.mp hc with hc | hc
    · subst hc; exact w2.head
    · exact w3.w.at_ c hc
  · refine List.nodup_cons.mpr ⟨fun hm => ?_, w3.w.nd⟩
    rw [Sim.set_map (c := (l, cp)) h] at hm
    obtain ⟨c, hc, e⟩ := List.mem_map.mp hm
    obtain ⟨_, o', h2, _⟩ := w.w.at_ c hc
    exact ne_of_none h2 hp e
  · rcases List.mem_cons.mp hc with hc | hc
    · subst hc; exact .inr n0
    · exact w3.lo c hc
theorem c_p1l {C : Rep κ} {f : List κ → ι → Option (List α × List κ)} {vs : List V} {i : Nat} {j : ι} {ys ys' : List κ} {x : List α} {Q : VK} {X : XK} (w : Wo G0 H0 ls G H cs) (hc : cs[i]? = some (l, cL C ys)) (hv : A.r G vs j) (hz : f ys j = some (x, ys'))
    (k : ∀ p H2 G2, H0 p = none → Wo G0 H0 ls G2 H2 ((p, cL R x) :: cs.set i (l, cL C ys')) → Ex G G2 → Q (.ref p) H2) : P1L A C R f (.ref l :: vs) H Q X :=
  ⟨G, (l, j), ys, x, ys', ⟨.ref l, vs, rfl, rfl, hv⟩, w.sub1 hc, hz, fun p H2 G2 hp fr w2 => k p H2 G2 (by
    cases q : H0 p with
    | none => rfl
    | some o => exact absurd hp (w.f.st p (by rw [q]; simp))) (w.call1L hc hp fr w2) fr.gg⟩

/-! ### readings opened -/
theorem o_nil {Q : List V → Hp → Prop} (h : Q [] H) : tNil σ H Q := h
theorem o_cons {tr : TA} {Q : List V → Hp → Prop} (h : ta σ H fun x H1 => tr σ H1 fun xs H2 => Q (x :: xs) H2) : tCons ta tr σ H Q := h
theorem o_op {r : R2} {Q : VK} (h : ta σ H fun x H1 => tb σ H1 fun y H2 => r x y H2 Q) : tOp r ta tb σ H Q := h
theorem o_call {sp : Sp} {X : XK} {ta : TA} {Q : VK} (h : ta σ H fun vs H1 => sp vs H1 Q X) : tCall sp [] X ta σ H Q := by
  show ta σ H fun vs H1 => sp (vs ++ []) H1 Q X
  have : (fun (vs : List V) (H1 : Hp) => sp (vs ++ []) H1 Q X) = fun vs H1 => sp vs H1 Q X := by funext vs H1; rw [List.append_nil]
  rw [this]; exact h
theorem o_cb {r : List V → Hp → VK → Prop} {ta : TA} {Q : VK} (h : ta σ H fun vs H1 => r vs H1 Q) : tCB r ta σ H Q := h
theorem o_var {i : Nat} {v : V} {Q : VK} (hi : σ[i]? = some (some v)) (h : Q v H) : tVar i σ H Q := ⟨v, hi, h⟩
theorem o_T {Q : Bool → Hp → Prop} (h : te σ H fun v H1 => ∃ b, v = .bl b ∧ Q b H1) : tTest te σ H Q := h
/-! ### statements -/
theorem x_next {f b c : L2.St → Hp → Prop} {r : VK} (h : f σ H) : tNext { nx := f, rt := r, bk := b, ct := c } σ H := h
theorem x_set {i : Nat} {m : Option α} {x : α} (w : Wo G0 H0 ls G H cs) (h : E te σ G H R m) (hm : m = some x) (k : ∀ v H2 G2, Wo G0 H0 ls G2 H2 cs → Ex G G2 → R.r G2 v x → tz D (σ.set i (some v)) H2) : tSeq (tAsg te (gName i)) tz D σ H :=
  c_e (Q := fun x H1 => gName i x σ H1 (tz D)) w h hm k
theorem x_setI {i : Nat} {m : Option Int} {x : Int} (w : Wo G0 H0 ls G H cs) (h : E te σ G H rI m) (hm : m = some x) (k : ∀ H2, Wo G0 H0 ls G H2 cs → tz D (σ.set i (some (.int x))) H2) : tSeq (tAsg te (gName i)) tz D σ H :=
  c_i (Q := fun x H1 => gName i x σ H1 (tz D)) w h hm k
theorem x_setL {i : Nat} {m : Option (List α)} {x : List α} (w : Wo G0 H0 ls G H cs) (h : EL te σ G H R m) (hm : m = some x) (k : ∀ p H2 G2, H0 p = none → Wo G0 H0 ls G2 H2 ((p, cL R x) :: cs) → Ex G G2 → tz D (σ.set i (some (.ref p))) H2) : tSeq (tAsg te (gName i)) tz D σ H :=
  c_l (Q := fun x H1 => gName i x σ H1 (tz D)) w h hm k
/-- name = an expression that changes cells: opened -/
theorem x_setO {i : Nat} (h : te σ H fun v H1 => tz D (σ.set i (some v)) H1) : tSeq (tAsg te (gName i)) tz D σ H := h
theorem x_if {m : Option Bool} {b : Bool} (w : Wo G0 H0 ls G H cs) (h : ET t σ H m) (hm : m = some b) (h1 : b = true → ∀ H2, Wo G0 H0 ls G H2 cs → tu { D with nx := tz D } σ H2) (h2 : b = false → ∀ H2, Wo G0 H0 ls G H2 cs → tv { D with nx := tz D } σ H2) :
    tSeq (tIfS t tu tv) tz D σ H := c_t (Q := fun b H1 => if b = true then tu { D with nx := tz D } σ H1 else tv { D with nx := tz D } σ H1) w h hm fun H2 w2 => by
  cases b with
  | true => exact h1 rfl H2 w2
  | false => exact h2 rfl H2 w2
theorem x_ret {m : Option α} {x : α} (w : Wo G0 H0 ls G H cs) (h : E te σ G H R m) (hm : m = some x) (k : ∀ v H2 G2, Wo G0 H0 ls G2 H2 cs → Ex G G2 → R.r G2 v x → D.rt v H2) : tSeq (tRet te) tz D σ H := c_e (Q := D.rt) w h hm k
theorem x_retO (h : te σ H D.rt) : tSeq (tRet te) tz D σ H := h
theorem x_drop (h : te σ H fun _ H1 => tz D σ H1) : tSeq (tDrop te) tz D σ H := h
/-! ### list cells, by methods -/
theorem x_app {i j : Nat} {m : Option α} {x : α} {xs : List α} (w : Wo G0 H0 ls G H cs) (hc : cs[j]? = some (l, cL R xs)) (hs : sz xs.length = true) (hi : σ[i]? = some (some (.ref l))) (h : E te σ G H R m) (hm : m = some x)
    (k : ∀ H2 G2, Wo G0 H0 ls G2 H2 (cs.set j (l, cL R (xs ++ [x]))) → Ex G G2 → tz D σ H2) : tSeq (tDrop (tBM K "list" rAppend (tVar i) (tCons te tNil))) tz D σ H := by
  obtain ⟨_, o, h2, vs, rfl, h3⟩ := w.w.getAt hc
  refine ⟨.ref l, hi, .inl ⟨rfl, vs, Or.inl (Or.inl h2)⟩, c_e (Q := fun x H1 => rAppend (.ref l) [x] H1 fun _ H3 => tz D σ H3) w h hm fun v H3 G3 w3 e r => ?_⟩
  obtain ⟨_, o3, k2, vs3, rfl, k3⟩ := w3.w.getAt hc
  refine ⟨l, vs3, v, rfl, rfl, k2, by rw [k3.length]; exact sz_l hs, k _ _ (w3.writeAt hc ⟨vs3 ++ [v], rfl, pr_app k3 (.cons r .nil)⟩) e⟩
/-- append, the item made by an expression that changes cells: the last step -/
theorem c_app {j : Nat} {x : α} {v : V} {xs : List α} {Q : VK} (w : Wo G0 H0 ls G H cs) (hc : cs[j]? = some (l, cL R xs)) (hs : sz xs.length = true) (r : R.r G v x) (k : ∀ H2, Wo G0 H0 ls G H2 (cs.set j (l, cL R (xs ++ [x]))) → Q .non H2) : rAppend (.ref l) [v] H Q := by
  obtain ⟨_, o3, k2, vs3, rfl, k3⟩ := w.w.getAt hc
  exact ⟨l, vs3, v, rfl, rfl, k2, by rw [k3.length]; exact sz_l hs, k _ (w.writeAt hc ⟨vs3 ++ [v], rfl, pr_app k3 (.cons r .nil)⟩)⟩
theorem o_bm {rr : V → List V → Hp → VK → Prop} {i j : Nat} {xs : List α} {ta : TA} {Q : VK} (w : Wo G0 H0 ls G H cs) (hc : cs[j]? = some (l, cL R xs)) (hi : σ[i]? = some (some (.ref l))) (h : ta σ H fun vs H2 => rr (.ref l) vs H2 Q) : tBM K "list" rr (tVar i) ta σ H Q := by
  obtain ⟨_, o, h2, vs, rfl, h3⟩ := w.w.getAt hc
  exact ⟨.ref l, hi, .inl ⟨rfl, vs, Or.inl (Or.inl h2)⟩, h⟩
theorem o_bm0 {rr : V → List V → Hp → VK → Prop} {i j : Nat} {xs : List α} {Q : VK} (w : Wo G0 H0 ls G H cs) (hc : cs[j]? = some (l, cL R xs)) (hi : σ[i]? = some (some (.ref l))) (h : rr (.ref l) [] H Q) : tBM0 K "list" rr (tVar i) σ H Q := by
  obtain ⟨_, o, h2, vs, rfl, h3⟩ := w.w.getAt hc
  exact ⟨.ref l, hi, .inl ⟨rfl, vs, Or.inl (Or.inl h2)⟩, h⟩
/-- xs.pop(), xs.pop(i), insert, reverse, clear -/
def popM (xs : List α) : Option (α × List α) := xs[xs.length - 1]? >>= fun x => some (x, xs.dropLast)
def popAtM (xs : List α) (i : Int) : Option (α × List α) := if -(2 ^ 63) ≤ i ∧ i < 2 ^ 63 then (seqIndex? i xs.length >>= fun k => xs[k]? >>= fun x => some (x, xs.eraseIdx k)) else none
def insM (xs : List α) (i : Int) (x : α) : Option (List α) := if sz xs.length = true ∧ 0 ≤ i ∧ i < 2 ^ 63 then some (xs.take i.toNat ++ [x] ++ xs.drop i.toNat) else none
def appM (xs : List α) (x : α) : Option (List α) := bif sz xs.length then some (xs ++ [x]) else none
theorem appM_ok {xs ys : List α} {x : α} (h : appM xs x = some ys) : sz xs.length = true ∧ ys = xs ++ [x] := by
  unfold appM at h
  cases e : sz xs.length with
  | true => rw [e] at h; exact ⟨rfl, (Option.some.inj h).symm⟩
  | false => rw [e] at h; cases h
theorem pr_take {R : V → α → Prop} : ∀ (n : Nat) {vs : List V} {xs : List α}, Paired R vs xs → Paired R (vs.take n) (xs.take n)
  | 0, _, _, _ => .nil
  | n + 1, _, _, .nil => .nil
  | n + 1, _, _, .cons r t => .cons r (pr_take n t)
theorem pr_drop {R : V → α → Prop} : ∀ (n : Nat) {vs : List V} {xs : List α}, Paired R vs xs → Paired R (vs.drop n) (xs.drop n)
  | 0, _, _, h => h
  | n + 1, _, _, .nil => .nil
  | n + 1, _, _, .cons r t => pr_drop n t
theorem pr_erase {R : V → α → Prop} : ∀ (n : Nat) {vs : List V} {xs : List α}, Paired R vs xs → Paired R (vs.eraseIdx n) (xs.eraseIdx n)
  | _, _, _, .nil => .nil
  | 0, _, _, .cons r t => t
  | n + 1, _, _, .cons r t => .cons r (pr_erase n t)
theorem pr_set {R : V → α → Prop} {v : V} {x : α} (r0 : R v x) : ∀ (n : Nat) {vs : List V} {xs : List α}, Paired R vs xs → Paired R (vs.set n v) (xs.set n x)
  | _, _, _, .nil => .nil
  | 0, _, _, .cons r t => .cons r0 t
  | n + 1, _, _, .cons r t => .cons r (pr_set r0 n t)
theorem pr_dropLast {R : V → α → Prop} {vs : List V} {xs : List α} (h : Paired R vs xs) : Paired R vs.dropLast xs.dropLast := by
  rw [List.dropLast_eq_take, List.dropLast_eq_take, h.length]; exact pr_take _ h
theorem pr_rev {R : V → α → Prop} : ∀ {vs : List V} {xs : List α}, Paired R vs xs → Paired R vs.reverse xs.reverse
  | _, _, .nil => .nil
  | _, _, .cons r t => by rw [List.reverse_cons, List.reverse_cons]; exact pr_app (pr_rev t) (.cons r .nil)
theorem c_pop {j : Nat} {x : α} {xs ys : List α} {Q : VK} (w : Wo G0 H0 ls G H cs) (hc : cs[j]? = some (l, cL R xs)) (hm : popM xs = some (x, ys)) (k : ∀ v H2, Wo G0 H0 ls G H2 (cs.set j (l, cL R ys)) → R.r G v x → Q v H2) : rPop (.ref l) [] H Q := by
  obtain ⟨_, o3, k2, vs, rfl, k3⟩ := w.w.getAt hc
  obtain ⟨x', hx, e⟩ := bindS hm
  cases e
  obtain ⟨v, hv, r⟩ := pr_get k3 hx
  exact ⟨l, vs, v, rfl, rfl, k2, by rw [k3.length]; exact hv, k v _ (w.writeAt hc ⟨vs.dropLast, rfl, pr_dropLast k3⟩) r⟩
theorem c_popAt {j : Nat} {i : Int} {x : α} {xs ys : List α} {Q : VK} (w : Wo G0 H0 ls G H cs) (hc : cs[j]? = some (l, cL R xs)) (hm : popAtM xs i = some (x, ys)) (k : ∀ v H2, Wo G0 H0 ls G H2 (cs.set j (l, cL R ys)) → R.r G v x → Q v H2) : rPopAt (.ref l) [.int i] H Q := by
  obtain ⟨_, o3, k2, vs, rfl, k3⟩ := w.w.getAt hc
  unfold popAtM at hm
  split at hm
  · rename_i hb
    obtain ⟨n, hn, hm⟩ := bindS hm
    obtain ⟨x', hx, e⟩ := bindS hm
    cases e
    obtain ⟨v, hv, r⟩ := pr_get k3 hx
    exact ⟨l, vs, i, n, v, rfl, rfl, k2, hb.1, hb.2, by rw [k3.length]; exact hn, hv, k v _ (w.writeAt hc ⟨vs.eraseIdx n, rfl, pr_erase n k3⟩) r⟩
  · cases hm
abbrev rIns : V → List V → Hp → VK → Prop := fun x vs H Q => ∃ (l : Addr) (xs : List V) (i : Int) (y : V), x = .ref l ∧ vs = [.int i, y] ∧ H l = some (.lst xs) ∧ xs.length < sizeLine ∧ 0 ≤ i ∧ i < 2 ^ 63 ∧ Q .non (upd H l (.lst (xs.take i.toNat ++ [y] ++ xs.drop i.toNat)))
def rInsN : V → List V → Hp → VK → Prop := rIns
theorem c_ins {j : Nat} {i : Int} {x : α} {v : V} {xs ys : List α} {Q : VK} (w : Wo G0 H0 ls G H cs) (hc : cs[j]? = some (l, cL R xs)) (r : R.r G v x) (hm : insM xs i x = some ys) (k : ∀ H2, Wo G0 H0 ls G H2 (cs.set j (l, cL R ys)) → Q .non H2) : rInsN (.ref l) [.int i, v] H Q := by
  obtain ⟨_, o3, k2, vs, rfl, k3⟩ := w.w.getAt hc
  unfold insM at hm
  split at hm
  · rename_i hb
    cases hm
    exact ⟨l, vs, i, v, rfl, rfl, k2, by rw [k3.length]; exact sz_l hb.1, hb.2.1, hb.2.2, k _ (w.writeAt hc ⟨_, rfl, pr_app (pr_app (pr_take _ k3) (.cons r .nil)) (pr_drop _ k3)⟩)⟩
  · cases hm
theorem c_rev {j : Nat} {xs : List α} {Q : VK} (w : Wo G0 H0 ls G H cs) (hc : cs[j]? = some (l, cL R xs)) (k : ∀ H2, Wo G0 H0 ls G H2 (cs.set j (l, cL R xs.reverse)) → Q .non H2) : rReverse (.ref l) [] H Q := by
  obtain ⟨_, o3, k2, vs, rfl, k3⟩ := w.w.getAt hc
  exact ⟨l, vs, rfl, rfl, k2, k _ (w.writeAt hc ⟨_, rfl, pr_rev k3⟩)⟩
theorem mt_insN {X : Cx} : MtR X "list.insert" rInsN := mt_insert
/-- xs[i] = e -/
def setM (xs : List α) (i : Int) (x : α) : Option (List α) := ixN xs.length i >>= fun j => some (xs.set j x)
theorem x_setIx {a j : Nat} {te ti : TE} {m : Option α} {mi : Option Int} {x : α} {i : Int} {xs ys : List α} (w : Wo G0 H0 ls G H cs) (hc : cs[j]? = some (l, cL R xs)) (hi : σ[a]? = some (some (.ref l))) (h : E te σ G H R m) (hm : m = some x)
    (h' : E ti σ G H rI mi) (hm' : mi = some i) (hy : setM xs i x = some ys) (k : ∀ H2 G2, Wo G0 H0 ls G2 H2 (cs.set j (l, cL R ys)) → Ex G G2 → tz D σ H2) : tSeq (tAsg te (gSub (tVar a) ti rSetL)) tz D σ H :=
  h x hm H w.ex (Ex.refl _) (fun x H1 => gSub (tVar a) ti rSetL x σ H1 (tz D)) fun v H3 G3 u r => by
    have w3 := w.up u
    refine ⟨.ref l, hi, (h'.mono u.gg u.hh) i hm' H3 w3.ex (Ex.refl _) _ fun v' H4 G4 u' r' => ?_⟩
    cases r'
    have w4 := w3.up u'
    obtain ⟨_, o3, k2, vs, rfl, k3⟩ := w4.w.getAt hc
    obtain ⟨n, hn, e⟩ := bindS hy
    cases e
    exact ⟨l, vs, i, n, rfl, rfl, k2, by rw [k3.length]; exact hn, k _ _ (w4.writeAt hc ⟨_, rfl, pr_set (R.mono u'.gg r) n k3⟩) (u.gg.trans u'.gg)⟩

/-! ### loops -/
theorem x_forL {xs : List α} {tl : TE} {m : Option (List α)} (w : Wo G0 H0 ls G H cs) (h : E tl σ G H (rL R) m) (hm : m = some xs) (P : Nat → Hp → Hp → L2.St → Prop) (hP : ∀ i G' H' σ', P i G' H' σ' → Ex G' H')
    (h0 : ∀ G' H', Wo G0 H0 ls G' H' cs → Ex G G' → P 0 G' H' σ)
    (hs : ∀ G1, Ex G G1 → ∀ i x v σ' G' H', xs[i]? = some x → Ex G1 G' → P i G' H' σ' → R.r G' v x → g v σ' H' fun σ2 H2 => tu { D with nx := fun σ' H' => ∃ G', Ex G1 G' ∧ P (i + 1) G' H' σ', ct := fun σ' H' => ∃ G', Ex G1 G' ∧ P (i + 1) G' H' σ', bk := tz D } σ2 H2)
    (hd : ∀ σ' G' H', Ex G G' → P xs.length G' H' σ' → tz D σ' H') : tSeq (tFor (iList K tl) g tu) tz D σ H :=
  h xs hm H w.ex (Ex.refl _) _ fun v H1 G1 u r => by
    obtain ⟨a, vs, rfl, h2, h3⟩ := r
    refine ⟨a, rfl, ⟨vs, Or.inl (Or.inl (u.gh a _ h2))⟩, for_list (K := K) (a := a) (xs := vs) (fun i σ' H' => ∃ G', Ex G1 G' ∧ P i G' H' σ') ⟨G1, Ex.refl _, h0 G1 H1 (w.up u) u.gg⟩ ?_ ?_ ?_⟩
    · rintro i σ' H' _ ⟨G', e, p⟩
      exact Or.inl (Or.inl (hP _ _ _ _ p a _ (e a _ h2)))
    · rintro i y σ' H' hy ⟨G', e, p⟩
      obtain ⟨x, hx, r⟩ := pr_get' h3 hy
      exact hs G1 u.gg i x y σ' G' H' hx e p (R.mono e r)
    · rintro σ' H' ⟨G', e, p⟩
      rw [h3.length] at p
      exact hd σ' G' H' (u.gg.trans e) p
theorem x_forR {ta : TA} {n : Int} {m : Option (Int × Unit)} {xs : List Int} (w : Wo G0 H0 ls G H cs) (h : EA ta σ G H (aC rI aN) m) (hm : m = some (n, ())) (hx : rngM 0 n = some xs) (P : Nat → Hp → Hp → L2.St → Prop)
    (h0 : ∀ G' H', Wo G0 H0 ls G' H' cs → Ex G G' → P 0 G' H' σ)
    (hs : ∀ i x σ' G' H', xs[i]? = some x → P i G' H' σ' → g (.int x) σ' H' fun σ2 H2 => tu { D with nx := fun σ' H' => ∃ G', P (i + 1) G' H' σ', ct := fun σ' H' => ∃ G', P (i + 1) G' H' σ', bk := tz D } σ2 H2)
    (hd : ∀ σ' G' H', P xs.length G' H' σ' → tz D σ' H') : tSeq (tFor (iRng1 ta) g tu) tz D σ H :=
  h _ hm H w.ex (Ex.refl _) _ fun v H1 G1 u r => by
    obtain ⟨v1, ws, rfl, e1, rfl⟩ := r
    cases e1
    unfold rngM at hx
    split at hx
    · rename_i hb
      cases hx
      refine ⟨n, rfl, by omega, by omega, for_range (lo := 0) (n := n.toNat) (fun i σ' H' => ∃ G', P i G' H' σ') ⟨G1, h0 G1 H1 (w.up u) u.gg⟩ ?_ ?_⟩
      · rintro i σ' H' hi ⟨G', p⟩
        exact hs i _ σ' G' H' (rng_get (by omega)) p
      · rintro σ' H' ⟨G', p⟩
        refine hd σ' G' H' ?_
        rw [rng_len]
        have : (n - 0).toNat = n.toNat := by omega
        rw [this]; exact p
    · cases hx
theorem x_forR2 {ta : TA} {lo n : Int} {m : Option (Int × Int × Unit)} {xs : List Int} (w : Wo G0 H0 ls G H cs) (h : EA ta σ G H (aC rI (aC rI aN)) m) (hm : m = some (lo, n, ())) (hx : rngM lo n = some xs) (P : Nat → Hp → Hp → L2.St → Prop)
    (h0 : ∀ G' H', Wo G0 H0 ls G' H' cs → Ex G G' → P 0 G' H' σ)
    (hs : ∀ i x σ' G' H', xs[i]? = some x → P i G' H' σ' → g (.int x) σ' H' fun σ2 H2 => tu { D with nx := fun σ' H' => ∃ G', P (i + 1) G' H' σ', ct := fun σ' H' => ∃ G', P (i + 1) G' H' σ', bk := tz D } σ2 H2)
    (hd : ∀ σ' G' H', P xs.length G' H' σ' → tz D σ' H') : tSeq (tFor (iRng2 ta) g tu) tz D σ H :=
  h _ hm H w.ex (Ex.refl _) _ fun v H1 G1 u r => by
    obtain ⟨v1, ws, rfl, e1, v2, ws2, rfl, e2, rfl⟩ := r
    cases e1
    cases e2
    unfold rngM at hx
    split at hx
    · rename_i hb
      cases hx
      refine ⟨lo, n, rfl, ⟨by omega, by omega, by omega, by omega⟩, for_range (lo := lo) (n := (n - lo).toNat) (fun i σ' H' => ∃ G', P i G' H' σ') ⟨G1, h0 G1 H1 (w.up u) u.gg⟩ ?_ ?_⟩
      · rintro i σ' H' hi ⟨G', p⟩
        exact hs i _ σ' G' H' (rng_get hi) p
      · rintro σ' H' ⟨G', p⟩
        refine hd σ' G' H' ?_
        rw [rng_len]
        exact p
    · cases hx
theorem g_name {j : Nat} {v : V} {Q : L2.St → Hp → Prop} (h : Q (σ.set j (some v)) H) : gName j v σ H Q := h
theorem g_pair {i j : Nat} {v : V} {p : α × β} {Q : L2.St → Hp → Prop} (r : (rP R S).r G v p) (e : Ex G H) (k : ∀ x y, R.r G x p.1 → S.r G y p.2 → Q ((σ.set i (some x)).set j (some y)) H) : gTup K 2 (gCons (gName i) (gCons (gName j) gNil)) v σ H Q := by
  obtain ⟨a, x, y, rfl, h2, h3, h4⟩ := r
  exact ⟨a, [x, y], rfl, Or.inl (Or.inl (e a _ h2)), rfl, x, [y], rfl, y, [], rfl, rfl, k x y h3 h4⟩
end
end Sim

namespace Sim
open PySem L2 Evl
section
variable {α β : Type}
/-- [f2 x for x in xs if f x] -/
def lcM (f : α → Option Bool) (f2 : α → Option β) : List α → Option (List β)
  | [] => some []
  | x :: xs => f x >>= fun b => bif b then f2 x >>= fun y => lcM f f2 xs >>= fun ys => some (y :: ys) else lcM f f2 xs
/-- [f2 x for x in xs] -/
def mapO (f2 : α → Option β) : List α → Option (List β)
  | [] => some []
  | x :: xs => f2 x >>= fun y => mapO f2 xs >>= fun ys => some (y :: ys)
def lcS (f : α → Option Bool) (f2 : α → Option β) (xs : List α) : Option (List β) := bif sz xs.length then lcM f f2 xs else none
def mapS (f2 : α → Option β) (xs : List α) : Option (List β) := bif sz xs.length then mapO f2 xs else none
theorem lcM_true (f2 : α → Option β) : ∀ xs, lcM (fun _ => some true) f2 xs = mapO f2 xs
  | [] => rfl
  | x :: xs => by
    show (f2 x >>= fun y => lcM (fun _ => some true) f2 xs >>= fun ys => some (y :: ys)) = _
    rw [lcM_true f2 xs]; rfl
theorem mapS_eq (f2 : α → Option β) : mapS f2 = lcS (fun _ => some true) f2 := by
  funext xs
  unfold mapS lcS
  rw [lcM_true]
theorem lcS_ok {f : α → Option Bool} {f2 : α → Option β} {xs : List α} {ys : List β} (h : lcS f f2 xs = some ys) : sz xs.length = true ∧ lcM f f2 xs = some ys := by
  unfold lcS at h
  cases e : sz xs.length with
  | true => rw [e] at h; exact ⟨rfl, h⟩
  | false => rw [e] at h; cases h
end
section
variable {K : PySem.W.Frag} {σ : L2.St} {G H W : Hp} {te tl : TE} {tt : TT} {α β γ : Type} {R : Rep α} {S : Rep β} {T : Rep γ}
/-- a turn's word: the list so far, what is left -/
def Lw (G0 H0 : Hp) (T : Rep γ) (f : α → Option Bool) (f2 : α → Option γ) (xs : List α) (zs : List γ) (D : Addr) (i : Nat) (H : Hp) : Prop :=
  ∃ G acc ys rest, H0 D = none ∧ Up G0 H0 G H ∧ G D = none ∧ H D = some (.lst acc) ∧ Paired (T.r G) acc ys ∧ lcM f f2 (xs.drop i) = some rest ∧ ys ++ rest = zs ∧ ys.length ≤ i
theorem lw_turn {G0 H0 H : Hp} {f : α → Option Bool} {f2 : α → Option γ} {xs : List α} {zs : List γ} {D : Addr} {i : Nat} {x : α} {σ2 : L2.St} (hx : xs[i]? = some x) (hs : sz xs.length = true) (p : Lw G0 H0 T f f2 xs zs D i H)
    (ht : ∀ G', Ex G0 G' → Ex H0 H → Ex G' H → ET tt σ2 H (f x)) (he : ∀ G' H', Ex G0 G' → Ex H0 H' → Ex H H' → Ex G' H' → E te σ2 G' H' T (f2 x)) :
    tt σ2 H fun b H3 => if b = true then te σ2 H3 fun y H4 => ∃ acc, H4 D = some (.lst acc) ∧ acc.length < sizeLine ∧ Lw G0 H0 T f f2 xs zs D (i + 1) (upd H4 D (.lst (acc ++ [y]))) else Lw G0 H0 T f f2 xs zs D (i + 1) H3 := by
  obtain ⟨G, acc, ys, rest, p1, p2, p3, p4, p5, p6, p7, p8⟩ := p
  rw [drop_at hx] at p6
  obtain ⟨b, hb, p6⟩ := bindS p6
  have hi : i < xs.length := (List.getElem?_eq_some_iff.mp hx).1
  refine ht G p2.gg p2.hh p2.gh b hb H (Ex.refl _) _ fun H3 e3 => ?_
  cases b with
  | false => exact ⟨G, acc, ys, rest, p1, p2.trans (Up.same p2.gh e3), p3, e3 _ _ p4, p5, p6, p7, Nat.le_succ_of_le p8⟩
  | true =>
    obtain ⟨y, hy, p6⟩ := bindS p6
    obtain ⟨r2, hr, p6⟩ := bindS p6
    cases p6
    show te σ2 H3 _
    refine he G H3 p2.gg (p2.hh.trans e3) e3 (p2.gh.trans e3) y hy H3 (p2.gh.trans e3) (Ex.refl _) _ fun v H4 G4 u r => ?_
    have q2 : Up G0 H0 G4 H4 := (p2.trans (Up.same p2.gh e3)).trans u
    have q3 : G4 D = none := u.nw D (by rw [e3 _ _ p4]; simp) p3
    have q4 := u.hh _ _ (e3 _ _ p4)
    refine ⟨acc, q4, by rw [p5.length]; exact sz_lt (by have := of_decide_eq_true hs; omega), G4, acc ++ [v], ys ++ [y], r2, p1, ⟨q2.gg, fun a o h => ?_, Ex.mut q2.hh p1, q2.nw⟩, q3, upd_same, pr_app (Paired.mapP p5 fun _ _ => T.mono u.gg) (.cons r .nil), hr, by rw [List.append_assoc]; exact p7, by rw [List.length_append]; exact Nat.succ_le_succ p8⟩
    rw [upd_ne (fun z => by subst z; rw [q3] at h; cases h)]
    exact q2.gh a o h
theorem lw_end {G0 H0 H : Hp} {f : α → Option Bool} {f2 : α → Option γ} {xs : List α} {zs : List γ} {D : Addr} (p : Lw G0 H0 T f f2 xs zs D xs.length H) : ∃ G, H0 D = none ∧ Up G0 H0 G H ∧ Wd G H [(D, cL T zs)] := by
  obtain ⟨G, acc, ys, rest, p1, p2, p3, p4, p5, p6, p7, p8⟩ := p
  rw [List.drop_length] at p6
  cases p6
  rw [List.append_nil] at p7
  subst p7
  exact ⟨G, p1, p2, p2.gh, fun c hc => by
    rw [List.mem_singleton.mp hc]; exact ⟨p3, _, p4, acc, rfl, p5⟩, List.nodup_cons.mpr ⟨List.not_mem_nil, List.nodup_nil⟩⟩
theorem lw_start {G0 H0 : Hp} {f : α → Option Bool} {f2 : α → Option γ} {xs : List α} {zs : List γ} {D : Addr} (e : Ex G0 H0) (hD : H0 D = none) (h : lcM f f2 xs = some zs) : Lw G0 H0 T f f2 xs zs D 0 (upd H0 D (.lst [])) :=
  ⟨G0, [], [], zs, hD, up_new e hD, fresh_back e hD, upd_same, .nil, h, rfl, Nat.le_refl _⟩
theorem el_lcL {vs : List Nat} {j : Nat} {m : Option (List α)} {f : α → Option Bool} {f2 : α → Option γ} (h : E tl σ G W (rL R) m) (hw : ∀ x, wipe ((wipe σ vs).set j (some x)) vs = wipe σ vs)
    (ht : ∀ x v G' W', Ex G G' → Ex W W' → Ex G' W' → R.r G' v x → ET tt ((wipe σ vs).set j (some v)) W' (f x))
    (he : ∀ x v G' W', Ex G G' → Ex W W' → Ex G' W' → R.r G' v x → E te ((wipe σ vs).set j (some v)) G' W' T (f2 x)) :
    EL (tLc (iList K tl) (gName j) tt te vs) σ G W T (m >>= fun xs => lcS f f2 xs) := fun zs hz H e e' Q q => by
  obtain ⟨xs, hx, hz⟩ := bindS hz
  obtain ⟨hs, hz⟩ := lcS_ok hz
  refine h xs hx H e e' _ fun v H1 G1 u r => ?_
  obtain ⟨a, us, rfl, h2, h3⟩ := r
  refine ⟨a, rfl, ⟨us, Or.inl (Or.inl (u.gh a _ h2))⟩, fun D hD => lc_list (xs := us) (Lw G1 H1 T f f2 xs zs D) (lw_start u.gh hD hz) (fun i H' _ p => ?_) (fun i y H' hy p => ?_) fun H' p => ?_⟩
  · obtain ⟨G', _, _, _, _, p2, _⟩ := p
    exact Or.inl (Or.inl (p2.gh a _ (p2.gg a _ h2)))
  · obtain ⟨x, hx', r⟩ := pr_get' h3 hy
    exact ⟨hw y, lw_turn hx' hs p (fun G' e1 e2 e3 => ht x y G' H' (u.gg.trans e1) ((e'.trans u.hh).trans e2) e3 (R.mono e1 r)) fun G' H2 e1 e2 _ e3 => he x y G' H2 (u.gg.trans e1) ((e'.trans u.hh).trans e2) e3 (R.mono e1 r)⟩
  · rw [h3.length] at p
    obtain ⟨G', k1, k2, k3⟩ := lw_end p
    exact q D H' G' (fresh_back u.hh k1) (u.trans k2) k3
theorem el_lcR {ta : TA} {vs : List Nat} {j : Nat} {m : Option (Int × Unit)} {f : Int → Option Bool} {f2 : Int → Option γ} (h : EA ta σ G W (aC rI aN) m) (hw : ∀ x, wipe ((wipe σ vs).set j (some x)) vs = wipe σ vs)
    (ht : ∀ x G' W', Ex G G' → Ex W W' → Ex G' W' → ET tt ((wipe σ vs).set j (some (.int x))) W' (f x))
    (he : ∀ x G' W', Ex G G' → Ex W W' → Ex G' W' → E te ((wipe σ vs).set j (some (.int x))) G' W' T (f2 x)) :
    EL (tLc (iRng1 ta) (gName j) tt te vs) σ G W T (m >>= fun n => rngM 0 n.1 >>= fun xs => lcS f f2 xs) := fun zs hz H e e' Q q => by
  obtain ⟨n, hn, hz⟩ := bindS hz
  obtain ⟨xs, hx, hz⟩ := bindS hz
  obtain ⟨hs, hz⟩ := lcS_ok hz
  refine h n hn H e e' _ fun v H1 G1 u r => ?_
  obtain ⟨v1, ws, rfl, e1, rfl⟩ := r
  cases e1
  unfold rngM at hx
  split at hx
  · rename_i hb
    cases hx
    have hl : (rng 0 n.1).length = n.1.toNat := by rw [rng_len]; omega
    refine ⟨n.1, rfl, by omega, by omega, fun D hD => lc_range (lo := 0) (n := n.1.toNat) (Lw G1 H1 T f f2 (rng 0 n.1) zs D) (lw_start u.gh hD hz) (fun i H' hi p => ?_) fun H' p => ?_⟩
    · have hx' : (rng 0 n.1)[i]? = some (0 + (i : Int)) := rng_get (by omega)
      exact ⟨hw _, lw_turn hx' hs p (fun G' e1 e2 e3 => ht _ G' H' (u.gg.trans e1) ((e'.trans u.hh).trans e2) e3) fun G' H2 e1 e2 _ e3 => he _ G' H2 (u.gg.trans e1) ((e'.trans u.hh).trans e2) e3⟩
    · rw [← hl] at p
      obtain ⟨G', k1, k2, k3⟩ := lw_end p
      exact q D H' G' (fresh_back u.hh k1) (u.trans k2) k3
  · cases hx
theorem et_yes : ET tYes σ W (some true) := fun b hb H _ Q q => by
  cases hb
  exact q H (Ex.refl _)
/-- no test: mapS -/
theorem el_map {m : Option (List α)} {f2 : α → Option γ} {te : TE} (h : EL te σ G W T (m >>= fun xs => lcS (fun _ => some true) f2 xs)) : EL te σ G W T (m >>= fun xs => mapS f2 xs) := by rw [mapS_eq]; exact h
theorem el_mapR {m : Option (Int × Unit)} {f2 : Int → Option γ} {te : TE} (h : EL te σ G W T (m >>= fun n => rngM 0 n.1 >>= fun xs => lcS (fun _ => some true) f2 xs)) : EL te σ G W T (m >>= fun n => rngM 0 n.1 >>= fun xs => mapS f2 xs) := by rw [mapS_eq]; exact h
end
end Sim

namespace Sim
open PySem L2 Evl
section
variable {K : PySem.W.Frag} {σ : L2.St} {G0 H0 G H G2 H2 W : Hp} {ls : List Addr} {cs : Cs} {l : Addr} {cp cp' : CP} {ta tb te tc : TE} {t u : TT} {α β γ ι κ : Type} {R : Rep α} {S : Rep β} {T : Rep γ} {A : AR ι} {D : Ends} {tu tv tz : TS} {g : TG}
theorem e_andP {a b : Bool} (h1 : E ta σ G W rB (some a)) (h2 : E tb σ G W rB (some b)) : E (tAndV ta tb) σ G W rB (some (a && b)) := by
  have h := e_andV h1 h2
  cases a <;> exact h
theorem e_orP {a b : Bool} (h1 : E ta σ G W rB (some a)) (h2 : E tb σ G W rB (some b)) : E (tOrV ta tb) σ G W rB (some (a || b)) := by
  have h := e_orV h1 h2
  cases a <;> exact h
theorem et_andP {a b : Bool} (h1 : ET t σ W (some a)) (h2 : ET u σ W (some b)) : ET (tAnd t u) σ W (some (a && b)) := by
  have h := et_and h1 h2
  cases a <;> exact h
theorem et_orP {a b : Bool} (h1 : ET t σ W (some a)) (h2 : ET u σ W (some b)) : ET (tOr t u) σ W (some (a || b)) := by
  have h := et_or h1 h2
  cases a <;> exact h
/-- an option's value where it is one -/
theorem e_some {m : Option α} (h : E te σ G W R m) : E te σ G W (rO R) (m >>= fun x => some (some x)) := fun z hz H e e' Q q => by
  obtain ⟨x, hx, hz⟩ := bindS hz
  cases hz
  exact h x hx H e e' Q q
theorem e_none : E (tC .non) σ G W (rO R) (some none) := e_c rfl
theorem e_get {m : Option (Option α)} (h : E te σ G W (rO R) m) : E te σ G W R (m >>= fun x => x) := fun z hz H e e' Q q => by
  obtain ⟨x, hx, hz⟩ := bindS hz
  subst hz
  exact h _ hx H e e' Q q
theorem eal_nil : EAL 0 tNil σ G W R (some []) := fun x hx => by
  cases hx
  exact ⟨rfl, fun H e e' Q q => q [] H G (Up.refl e) .nil⟩
theorem eal_cons {n : Nat} {tr : TA} {ma : Option α} {mr : Option (List α)} (h : E ta σ G W R ma) (hr : EAL n tr σ G W R mr) : EAL (n + 1) (tCons ta tr) σ G W R (ma >>= fun x => mr >>= fun xs => some (x :: xs)) := fun z hz => by
  obtain ⟨x, hx, hz⟩ := bindS hz
  obtain ⟨xs, hxs, hz⟩ := bindS hz
  cases hz
  refine ⟨congrArg (· + 1) (hr xs hxs).1, fun H e e' Q q => ?_⟩
  refine h x hx H e e' _ fun v H1 G1 u1 r1 => ?_
  refine ((hr.mono u1.gg (e'.trans u1.hh)) xs hxs).2 H1 u1.gh (Ex.refl _) _ fun vs H2 G2 u2 r2 => ?_
  exact q (v :: vs) H2 G2 (u1.trans u2) (.cons (R.mono u2.gg r1) r2)
theorem el_disp {n : Nat} {ta : TA} {m : Option (List α)} (h : EAL n ta σ G W R m) (hn : n < 100000 := by decide) : EL (tLst ta) σ G W R m := fun z hz H e e' Q q => by
  refine (h z hz).2 H e e' _ fun vs H1 G1 u1 r1 => ?_
  refine ⟨sz_of (by rw [r1.length, (h z hz).1]; exact Nat.le_of_lt hn), fun p hp => q p _ G1 (fresh_back u1.hh hp) (u1.trans (up_new u1.gh hp)) (wd_new u1.gh hp r1)⟩
theorem e_tupH {n : Nat} {ta : TA} {m : Option (List α)} (h : EAL n ta σ G W R m) (hn : n < 100000 := by decide) : E (tTup ta) σ G W (rT R) m := fun z hz H e e' Q q => by
  refine (h z hz).2 H e e' _ fun vs H1 G1 u1 r1 => ?_
  refine ⟨sz_of (by rw [r1.length, (h z hz).1]; exact Nat.le_of_lt hn), fun p hp => q _ _ _ (u1.trans (Up.lay u1.gh hp)) ⟨p, vs, rfl, Or.inl upd_same, Paired.mapP r1 fun _ _ => R.mono (Ex.new (fresh_back u1.gh hp))⟩⟩
/-! ### cuts, tests opened -/
theorem o_cut (M : L2.St → Hp → Prop) (h : tSeq tu (fun _ => M) D σ H) (k : ∀ σ' H', M σ' H' → tz D σ' H') : Evl.tCut tu tz D σ H := ⟨M, h, k⟩
theorem o_if (h : t σ H fun b H1 => if b = true then tu { D with nx := tz D } σ H1 else tv { D with nx := tz D } σ H1) : tSeq (tIfS t tu tv) tz D σ H := h
theorem ite_b {b : Bool} {A B : Prop} (h1 : b = true → A) (h2 : b = false → B) : if b = true then A else B := by
  cases b with
  | true => exact h1 rfl
  | false => exact h2 rfl
theorem o_forR {ta : TA} (h : ta σ H fun vs H1 => ∃ j : Int, vs = [.int j] ∧ -(2 ^ 62) ≤ j ∧ j < 2 ^ 62 ∧ (fun (J : It) (H1 : Hp) => ∃ W : Nat → Nat → L2.St → Hp → Prop, (∃ m, W 0 m σ H1) ∧ ∀ i m σ H, W i m σ H →
      (J.stop i H ∧ tz D σ H) ∨ (J.go i H ∧ ∃ N : L2.St → Hp → Prop, (∀ σ' H', N σ' H' → ∃ m', m' < m ∧ W (i + 1) m' σ' H') ∧ ∀ x H', J.yld i H x H' → g x σ H' fun σ2 H2 => tu { D with nx := N, ct := N, bk := tz D } σ2 H2)) (Itr 0 j.toNat) H1) : tSeq (tFor (iRng1 ta) g tu) tz D σ H := h
/-- for i in range(n), n reckoned -/
theorem v_forR {n : Int} {xs : List Int} (w : Wo G0 H0 ls G H cs) (hx : rngM 0 n = some xs) (P : Nat → Hp → Hp → L2.St → Prop)
    (h0 : P 0 G H σ)
    (hs : ∀ i x σ' G' H', xs[i]? = some x → P i G' H' σ' → g (.int x) σ' H' fun σ2 H2 => tu { D with nx := fun σ' H' => ∃ G', P (i + 1) G' H' σ', ct := fun σ' H' => ∃ G', P (i + 1) G' H' σ', bk := tz D } σ2 H2)
    (hd : ∀ σ' G' H', P xs.length G' H' σ' → tz D σ' H') : ∃ j : Int, [V.int n] = [.int j] ∧ -(2 ^ 62) ≤ j ∧ j < 2 ^ 62 ∧ (fun (J : It) (H1 : Hp) => ∃ W : Nat → Nat → L2.St → Hp → Prop, (∃ m, W 0 m σ H1) ∧ ∀ i m σ H, W i m σ H →
      (J.stop i H ∧ tz D σ H) ∨ (J.go i H ∧ ∃ N : L2.St → Hp → Prop, (∀ σ' H', N σ' H' → ∃ m', m' < m ∧ W (i + 1) m' σ' H') ∧ ∀ x H', J.yld i H x H' → g x σ H' fun σ2 H2 => tu { D with nx := N, ct := N, bk := tz D } σ2 H2)) (Itr 0 j.toNat) H := by
  unfold rngM at hx
  split at hx
  · rename_i hb
    cases hx
    refine ⟨n, rfl, by omega, by omega, for_range (lo := 0) (n := n.toNat) (D := { D with nx := tz D }) (fun i σ' H' => ∃ G', P i G' H' σ') ⟨G, h0⟩ ?_ ?_⟩
    · rintro i σ' H' hi ⟨G', p⟩
      exact hs i _ σ' G' H' (rng_get (by omega)) p
    · rintro σ' H' ⟨G', p⟩
      refine hd σ' G' H' ?_
      rw [rng_len]
      have : (n - 0).toNat = n.toNat := by omega
      rw [this]; exact p
  · cases hx
end
end Sim

namespace Sim
open PySem L2 Evl
section
variable {K : PySem.W.Frag} {σ : L2.St} {G0 H0 G H G2 H2 W : Hp} {ls : List Addr} {cs : Cs} {l : Addr} {cp cp' : CP} {ta tb te tc : TE} {t u : TT} {α β γ ι κ : Type} {R : Rep α} {S : Rep β} {T : Rep γ} {A : AR ι} {D : Ends} {tu tv tz : TS} {g : TG}
theorem e_neg {m : Option Int} (h : E te σ G W rI m) : E (tUn (L2.rU fun i => .int (-i)) te) σ G W rI (m >>= fun x => some (-x)) := fun z hz H e e' Q q => by
  obtain ⟨x, hx, hz⟩ := bindS hz
  cases hz
  exact h x hx H e e' _ fun v H1 G1 u r => ⟨x, r, q _ H1 G1 u rfl⟩
/-- the cells in another order -/
theorem Wo.perm (w : Wo G0 H0 ls G H cs) (p : List Nat) (hp : p.Nodup) (hl : ∀ i ∈ p, i < cs.length) : Wo G0 H0 ls G H (p.filterMap fun i => cs[i]?) := by
  have hm : ∀ c ∈ p.filterMap (fun i => cs[i]?), c ∈ cs := fun c hc => by
    obtain ⟨i, _, e⟩ := List.mem_filterMap.mp hc
    exact List.mem_of_getElem? e
  refine ⟨⟨w.ex, fun c hc => w.w.at_ c (hm c hc), ?_⟩, w.f, fun c hc => w.lo c (hm c hc)⟩
  clear hm
  induction p with
  | nil => exact List.nodup_nil
  | cons i p ih =>
    have hi : i < cs.length := hl i (List.mem_cons_self ..)
    rw [List.filterMap_cons, List.getElem?_eq_getElem hi]
    refine List.nodup_cons.mpr ⟨fun h => ?_, ih (List.nodup_cons.mp hp).2 fun j hj => hl j (List.mem_cons_of_mem _ hj)⟩
    obtain ⟨c, hc, e⟩ := List.mem_map.mp h
    obtain ⟨j, hj, ej⟩ := List.mem_filterMap.mp hc
    have h1 : (cs.map (·.1))[i]? = some cs[i].1 := by rw [List.getElem?_map, List.getElem?_eq_getElem hi]; rfl
    have h2 : (cs.map (·.1))[j]? = some cs[i].1 := by rw [List.getElem?_map, ej]; exact congrArg some e
    have := nodup_ix w.w.nd h1 h2
    subst this
    exact (List.nodup_cons.mp hp).1 hj
theorem Wo.sub2 {i j : Nat} {l' : Addr} (w : Wo G0 H0 ls G H cs) (h : cs[i]? = some (l, cp)) (h' : cs[j]? = some (l', cp')) (ne : i ≠ j) : Wd G H [(l, cp), (l', cp')] := ⟨w.ex, fun c hc => by
  rcases List.mem_cons.mp hc with hc | hc
  · subst hc; exact w.w.at_ _ (List.mem_of_getElem? h)
  · rw [List.mem_singleton.mp hc]; exact w.w.at_ _ (List.mem_of_getElem? h'), by
  refine List.nodup_cons.mpr ⟨fun z => ?_, List.nodup_cons.mpr ⟨List.not_mem_nil, List.nodup_nil⟩⟩
  have e : l = l' := List.mem_singleton.mp z
  have h1 : (cs.map (·.1))[i]? = some l := by rw [List.getElem?_map, h]; rfl
  have h2 : (cs.map (·.1))[j]? = some l := by rw [List.getElem?_map, h', e]; rfl
  exact ne (nodup_ix w.w.nd h1 h2)⟩
theorem x_forT {xs : List α} {tl : TE} {m : Option (List α)} (w : Wo G0 H0 ls G H cs) (h : E tl σ G H (rT R) m) (hm : m = some xs) (P : Nat → Hp → Hp → L2.St → Prop) (hP : ∀ i G' H' σ', P i G' H' σ' → Ex G' H')
    (h0 : ∀ G' H', Wo G0 H0 ls G' H' cs → Ex G G' → P 0 G' H' σ)
    (hs : ∀ G1, Ex G G1 → ∀ i x v σ' G' H', xs[i]? = some x → Ex G1 G' → P i G' H' σ' → R.r G' v x → g v σ' H' fun σ2 H2 => tu { D with nx := fun σ' H' => ∃ G', Ex G1 G' ∧ P (i + 1) G' H' σ', ct := fun σ' H' => ∃ G', Ex G1 G' ∧ P (i + 1) G' H' σ', bk := tz D } σ2 H2)
    (hd : ∀ σ' G' H', Ex G G' → P xs.length G' H' σ' → tz D σ' H') : tSeq (tFor (iTup K tl) g tu) tz D σ H :=
  h xs hm H w.ex (Ex.refl _) _ fun v H1 G1 u r => by
    obtain ⟨a, vs, rfl, h2, h3⟩ := r
    refine ⟨a, rfl, ⟨vs, Or.inl (rd_up u.gh h2)⟩, for_tup (K := K) (a := a) (xs := vs) (fun i σ' H' => ∃ G', Ex G1 G' ∧ P i G' H' σ') ⟨G1, Ex.refl _, h0 G1 H1 (w.up u) u.gg⟩ ?_ ?_ ?_⟩
    · rintro i σ' H' _ ⟨G', e, p⟩
      exact Or.inl (rd_up (hP _ _ _ _ p) (rd_up e h2))
    · rintro i y σ' H' hy ⟨G', e, p⟩
      obtain ⟨x, hx, r⟩ := pr_get' h3 hy
      exact hs G1 u.gg i x y σ' G' H' hx e p (R.mono e r)
    · rintro σ' H' ⟨G', e, p⟩
      rw [h3.length] at p
      exact hd σ' G' H' (u.gg.trans e) p
end
/-! ### the text's facts -/
section
variable {fa : List He.Fa} {fn : List He.DefD} {K : PySem.W.Frag} {mg : Str → Option Value} {P : Program} {w : World} {base : Heap}
theorem Tx.def_ (T : Tx fa fn K mg) (i : Nat) {d : He.DefD} (h : fn[i]? = some d) : ∃ fd, FunD K d.name d.qual d.params d.body d.scope (d.dvs K) (d.kws K) (He.fAd K d.at_) fd := T.c.def_ i h
/-- a def by its name, with its promise -/
def Fk (P : Program) (w : World) (K : PySem.W.Frag) (mg : Str → Option Value) (base : Heap) (CX : CXT) (k : Nat) (x : Str) (ps : List Str) (sp : Sp) : Prop :=
  ∃ fd, FnOk P w K mg base CX k (He.ga K x) fd ps sp ∧ Binds K fd ps [] ∧ PySem.W.keepIn K (.ref (He.ga K x)) = true ∧ mg x = some (.ref (He.ga K x))
theorem fk_mk {CX : CXT} {k : Nat} {x qual : Str} {ps : List Str} {sp : Sp} {fd : FuncData} {params : Arguments} {body : List Stmt} {scope : Scope} (T : Tx fa fn K mg) (g : mg x = some (.ref (He.ga K x))) (F : FunD K x qual params body scope [] [] (He.ga K x) fd)
    (hb : ∀ (kV doc pm : Value) (an : Option Addr) (cdv ct : Value) (us : List Value), us.length = ps.length → bindArgs (PySem.W.fnOf x qual params body scope .none kV doc pm an cdv ct) ⟨us, []⟩ = pure (ps.zip us))
    (h : FnOk P w K mg base CX k (He.ga K x) fd ps sp) : Fk P w K mg base CX k x ps sp := ⟨fd, h, F.bindsN hb, F.kp, g⟩
end
end Sim

namespace Sim
open PySem L2 Evl
/-! ### the hook: facts, defs, and further Bools -/
structure SaysE (fa : List He.Fa) (fn : List He.DefD) (ex : List (PySem.W.Frag → Bool)) (K : PySem.W.Frag) : Prop where
  d : He.SaysD fa fn K
  x : (ex.all fun e => e K) = true
theorem TxE.mo {fa : List He.Fa} {fn : List He.DefD} {ex : List (PySem.W.Frag → Bool)} {K : PySem.W.Frag} {mg : Str → Option Value} (T : TxE fa fn ex K mg) (i : Nat) {e : PySem.W.Frag → Bool} (h : ex[i]? = some e) : e K = true := List.all_eq_true.mp T.x e (List.mem_of_getElem? h)
theorem TxE.con {fa : List He.Fa} {fn : List He.DefD} {ex : List (PySem.W.Frag → Bool)} {K : PySem.W.Frag} {mg : Str → Option Value} (T : TxE fa fn ex K mg) (i : Nat) {C f : Str} {v : He.Dv} (h : ex[i]? = some fun K => He.conB K C f v) (hc : PySem.W.copiedNames.contains f = false := by decide) : ∃ u, Con K (He.ga K C) f (v.v K) u := He.conB_ok (T.mo i h) hc
/-! ### objects -/
def pd {α : Type} (R : Rep α) (x : α) : Pd := ⟨fun H v => R.r H v x, fun e h => R.mono e h⟩
theorem look_at {ns : List Str} : ∀ {fs : List (Str × V)} {f : Str} {i : Nat} {v : V}, fs.map (·.1) = ns → (ns.findIdx? (fun x => x == f)) = some i → (fs.map (·.2))[i]? = some v → fs.lookup f = some v := by
  intro fs
  induction fs generalizing ns with
  | nil => intro f i v h1 h2 h3; simp at h3
  | cons q fs ih =>
    intro f i v h1 h2 h3
    obtain ⟨n, w⟩ := q
    subst h1
    rw [List.map_cons, List.findIdx?_cons] at h2
    rw [List.lookup_cons]
    by_cases hn : (n == f) = true
    · rw [if_pos hn] at h2
      cases h2
      have hf : (f == n) = true := by rw [beq_iff_eq] at hn ⊢; exact hn.symm
      rw [hf]
      simpa using h3
    · rw [if_neg hn] at h2
      obtain ⟨j, hj, e⟩ := Option.map_eq_some_iff.mp h2
      subst e
      have hf : (f == n) = false := by
        cases q : (f == n) with
        | false => rfl
        | true => rw [beq_iff_eq] at q; exact absurd (by rw [beq_iff_eq]; exact q.symm) hn
      rw [hf]
      exact ih rfl hj (by simpa using h3)
theorem look_no {ns : List Str} : ∀ {fs : List (Str × V)} {f : Str}, fs.map (·.1) = ns → ns.contains f = false → fs.lookup f = none := by
  intro fs
  induction fs generalizing ns with
  | nil => intro f _ _; rfl
  | cons q fs ih =>
    intro f h1 h2
    obtain ⟨n, w⟩ := q
    subst h1
    rw [List.map_cons, List.contains_cons, Bool.or_eq_false_iff] at h2
    rw [List.lookup_cons, h2.1]
    exact ih rfl h2.2
theorem putF_new {f : Str} {v : V} : ∀ {fs : List (Str × V)}, (fs.map (·.1)).contains f = false → putF f v fs = fs ++ [(f, v)]
  | [], _ => rfl
  | (n, w) :: fs, h => by
    rw [List.map_cons, List.contains_cons, Bool.or_eq_false_iff] at h
    have hn : ¬ (n = f) := fun e => by subst e; simp at h
    unfold putF
    rw [if_neg hn, putF_new h.2]; rfl
section
variable {K : PySem.W.Frag} {σ : L2.St} {G0 H0 G H G2 H2 W : Hp} {ls : List Addr} {cs : Cs} {l C : Addr} {cp cp' : CP} {ta tb te tc to : TE} {t u : TT} {α β γ ι κ : Type} {R : Rep α} {S : Rep β} {T : Rep γ} {A : AR ι} {D : Ends} {tu tv tz : TS} {g : TG} {ns : List Str} {fl : α → List Pd}
theorem nnO_ : (rObj C ns fl).NN := fun ⟨a, _, _, h, _⟩ => by rw [h]; simp
/-- o.f -/
theorem e_fld {m : Option α} {f : Str} (i : Nat) (p : α → β) (h : E to σ G W (rObj C ns fl) m) (hc : Cls K C) (hn : NoAttr K C f) (hi : ns.findIdx? (fun x => x == f) = some i) (hp : ∀ x, (fl x)[i]? = some (pd S (p x))) : E (tFld K to f) σ G W S (m >>= fun x => some (p x)) := fun z hz H e e' Q q => by
  obtain ⟨x, hx, hz⟩ := bindS hz
  cases hz
  refine h x hx H e e' _ fun v H1 G1 u r => ?_
  obtain ⟨a, dx, fs, rfl, h2, h3⟩ := r
  obtain ⟨w, hw, r2⟩ := pr_get h3.2 (hp x)
  exact ⟨a, C, dx, fs, w, rfl, u.gh a _ h2, hc, hn, look_at h3.1 hi hw, q w H1 G1 u r2⟩
/-- the promise of an __init__: fields of the new object -/
def PI {ι α : Type} (C : Addr) (A : AR ι) (ns : List Str) (fl : α → List Pd) (f : ι → Option α) : Sp := fun vs H Q _ => ∃ G x ws i o, vs = .ref x :: ws ∧ Wd G H [(x, cI C [] [])] ∧ A.r G ws i ∧ f i = some o ∧
  ∀ H2 G2, Fr G H G2 H2 [x] → Wd G2 H2 [(x, cI C ns (fl o))] → Q .non H2
theorem ob_freeze {p : Addr} {ps : List Pd} (w : Wd G H [(p, cI C ns ps)]) : ∃ G2, Ex G G2 ∧ Ex G2 H ∧ (∀ a, a ≠ p → G a = none → G2 a = none) ∧ ∃ dx fs, G2 p = some (.ins C dx fs) ∧ Fl ns ps G2 fs := by
  obtain ⟨h1, o, h2, dx, fs, rfl, h3⟩ := w.head
  refine ⟨upd G p (.ins C dx fs), Ex.new h1, fun a u' e => ?_, fun a ne h => by rw [upd_ne ne]; exact h, dx, fs, upd_same, h3.mono (Ex.new h1)⟩
  by_cases q : a = p
  · subst q; rw [upd_same] at e; cases e; exact h2
  · rw [upd_ne q] at e; exact w.ex a u' e
theorem new_ins {x dx : Addr} (e : Ex G H) (nx : H x = none) (ndx : H dx = none) (ne : dx ≠ x) : Wd G (upd (upd H dx (.own x)) x (.ins C dx [])) [(x, cI C [] [])] := by
  have nx' : (upd H dx (.own x)) x = none := by rw [upd_ne ne.symm]; exact nx
  have e1 : Ex G (upd H dx (.own x)) := e.trans (Ex.new ndx)
  exact (Wd.nil e1).new nx' ⟨dx, [], rfl, rfl, .nil⟩
/-- self.f = e, a new field -/
theorem x_fldN {i j : Nat} {f : Str} {m : Option β} {x : β} {ps : List Pd} (w : Wo G0 H0 ls G H cs) (hc : cs[j]? = some (l, cI C ns ps)) (hi : σ[i]? = some (some (.ref l))) (h : E te σ G H S m) (hm : m = some x) (hC : Cls K C) (hn : NoAttr K C f) (hz : ns.contains f = false) (hs : ns.length < 1000)
    (k : ∀ H2 G2, Wo G0 H0 ls G2 H2 (cs.set j (l, cI C (ns ++ [f]) (ps ++ [pd S x]))) → Ex G G2 → tz D σ H2) : tSeq (sFld K (tVar i) te f) tz D σ H :=
  h x hm H w.ex (Ex.refl _) (fun y H1 => tVar i σ H1 fun x H2 => ∃ a C dx fs, x = .ref a ∧ H2 a = some (.ins C dx fs) ∧ Cls K C ∧ NoAttr K C f ∧ fs.length < 1000 ∧ tz D σ (upd H2 a (.ins C dx (putF f y fs)))) fun v H3 G3 u r => by
    have w3 := w.up u
    obtain ⟨_, o3, k2, dx, fs, rfl, k3⟩ := w3.w.getAt hc
    refine ⟨.ref l, hi, l, C, dx, fs, rfl, k2, hC, hn, by rw [← List.length_map (f := (·.1)), k3.1]; exact hs, ?_⟩
    rw [putF_new (by rw [k3.1]; exact hz)]
    refine k _ _ (w3.writeAt hc ⟨dx, _, rfl, ?_, ?_⟩) u.gg
    · rw [List.map_append, k3.1]; rfl
    · rw [List.map_append]; exact pr_app k3.2 (.cons r .nil)
theorem o_try {tb : TS} (h : tb { D with nx := tz D } σ H) : tSeq tb tz D σ H := h
/-! ### isinstance, the kind known -/
def KTy (R : Rep α) (n : String) : Prop := ∀ {K : PySem.W.Frag} {H : Hp} {v : V} {x : α}, R.r H v x → TyX K H v (.type n)
theorem ktI : KTy rI "int" := fun h => by rw [show _ = V.int _ from h]; exact .base (.int _)
theorem e_isi {m : Option α} {n c : String} {b : Bool} (h : E te σ G W R m) (hk : KTy R n) (hb : kitB n c = some b) : E (tCB (rIsi K) (tCons te (tCons (tC (.ty c)) tNil))) σ G W rB (m >>= fun _ => some b) := fun z hz H e e' Q q => by
  obtain ⟨x, hx, hz⟩ := bindS hz
  cases hz
  refine h x hx H e e' _ fun v H1 G1 u r => ?_
  exact ⟨v, .ty c, .type n, .type c, b, rfl, .ty c, hk (R.mono u.gh r), kit_ty hb, q _ H1 G1 u rfl⟩
/-! ### == of data -/
def rEqP (K : PySem.W.Frag) : R2 := fun x y H Q => ∃ d e, Dp K H x d ∧ Dp K H y e ∧ (d.plain = true ∧ d.depth ≤ 64) ∧ (e.plain = true ∧ e.depth ≤ 64) ∧ Q (.bl (PyData.eqv d e)) H
def rNeP (K : PySem.W.Frag) : R2 := fun x y H Q => ∃ d e, Dp K H x d ∧ Dp K H y e ∧ (d.plain = true ∧ d.depth ≤ 64) ∧ (e.plain = true ∧ e.depth ≤ 64) ∧ Q (.bl (!PyData.eqv d e)) H
theorem op_eqP {X : Cx} (hu : X.A.units + 64 < cLine) : OpR X (compareOp .Eq) (rEqP X.K) := by
  intro pins s σ H x y v u Q I rx ry h
  obtain ⟨d, e, hd, he, sd, se, q⟩ := h
  obtain ⟨as, r1⟩ := Dp.reads I d x v hd rx
  obtain ⟨bs, r2⟩ := Dp.reads I e y u he ry
  exact SeqAt.eq_plain r1 r2 sd.1 se.1 (by have := sd.2; omega) ⟨.bl _, H, I, rfl, q⟩
theorem op_neP {X : Cx} (hu : X.A.units + 64 < cLine) : OpR X (compareOp .NotEq) (rNeP X.K) := by
  intro pins s σ H x y v u Q I rx ry h
  obtain ⟨d, e, hd, he, sd, se, q⟩ := h
  obtain ⟨as, r1⟩ := Dp.reads I d x v hd rx
  obtain ⟨bs, r2⟩ := Dp.reads I e y u he ry
  exact SeqAt.ne_plain r1 r2 sd.1 se.1 (by have := sd.2; omega) ⟨.bl _, H, I, rfl, q⟩
structure Dt (R : Rep α) (d : α → PyData) (n : Nat) : Prop where
  dp : ∀ {K : PySem.W.Frag} {H : Hp} {v : V} {x : α}, R.r H v x → Dp K H v (d x)
  lay : ∀ x, (d x).plain = true
  dep : ∀ x, (d x).depth ≤ n
  eq : ∀ x y, PyData.eqv (d x) (d y) = true ↔ x = y
theorem dtI : Dt rI PyData.int 0 := ⟨fun h => by rw [show _ = V.int _ from h]; exact .int _, fun _ => rfl, fun _ => Nat.le_refl _, fun x y => by simp [PyData.eqv]⟩
theorem dtB : Dt rB PyData.bool 0 := ⟨fun h => by rw [show _ = V.bl _ from h]; exact .bl _, fun _ => rfl, fun _ => Nat.le_refl _, fun x y => by simp [PyData.eqv]⟩
theorem eqvD {d : α → PyData} {n : Nat} [DecidableEq α] (h : Dt R d n) (x y : α) : PyData.eqv (d x) (d y) = decide (x = y) := by
  by_cases e : x = y
  · rw [decide_eq_true e]; exact (h.eq x y).mpr e
  · rw [decide_eq_false e]
    cases q : PyData.eqv (d x) (d y) with
    | false => rfl
    | true => exact absurd ((h.eq x y).mp q) e
theorem rr_eqD {d : α → PyData} {n : Nat} [DecidableEq α] (h : Dt R d n) (hn : n ≤ 64) : RR (rEqP K) R R rB (fun x y => some (decide (x = y))) := fun v w x y z H G hv hw hz e Q q => by
  cases hz
  exact ⟨d x, d y, h.dp (R.mono e hv), h.dp (R.mono e hw), ⟨h.lay x, Nat.le_trans (h.dep x) hn⟩, ⟨h.lay y, Nat.le_trans (h.dep y) hn⟩, q _ H G (Up.refl e) (congrArg V.bl (eqvD h x y))⟩
theorem rr_neD {d : α → PyData} {n : Nat} [DecidableEq α] (h : Dt R d n) (hn : n ≤ 64) : RR (rNeP K) R R rB (fun x y => some (!decide (x = y))) := fun v w x y z H G hv hw hz e Q q => by
  cases hz
  exact ⟨d x, d y, h.dp (R.mono e hv), h.dp (R.mono e hw), ⟨h.lay x, Nat.le_trans (h.dep x) hn⟩, ⟨h.lay y, Nat.le_trans (h.dep y) hn⟩, q _ H G (Up.refl e) (congrArg (fun b => V.bl (!b)) (eqvD h x y))⟩
end
end Sim

namespace Sim
open PySem L2 Evl
section
variable {K : PySem.W.Frag} {σ : L2.St} {G0 H0 G H G2 H2 W : Hp} {ls : List Addr} {cs : Cs} {l C : Addr} {cp cp' : CP} {ta tb te tc to : TE} {t u : TT} {α β γ ι κ : Type} {R : Rep α} {S : Rep β} {T : Rep γ} {A : AR ι} {D : Ends} {tu tv tz : TS} {g : TG} {ns : List Str} {fl : α → List Pd}
/-! ### a list lent to a def that only reads it -/
theorem Wo.lent {i : Nat} {B : Rep κ} {ys : List κ} (w : Wo G0 H0 ls G H cs) (h : cs[i]? = some (l, cL B ys)) : Lent G H l B ys := by
  obtain ⟨h1, o, h2, vs, rfl, h3⟩ := w.w.getAt h
  exact ⟨h1, vs, h2, h3⟩
end
/-! ### a method by its name, with its promise -/
def Fm (P : Program) (w : World) (K : PySem.W.Frag) (mg : Str → Option Value) (base : Heap) (CX : CXT) (k : Nat) (c m : Str) (ps : List Str) (sp : Sp) : Prop :=
  ∃ fd, FnOk P w K mg base CX k (He.ma K (He.ga K c) m) fd ps sp ∧ Binds K fd ps []
theorem fm_mk {K : PySem.W.Frag} {mg : Str → Option Value} {P : Program} {w : World} {base : Heap} {CX : CXT} {k : Nat} {c m x qual : Str} {ps : List Str} {sp : Sp} {fd : FuncData} {params : Arguments} {body : List Stmt} {scope : Scope} (F : FunD K x qual params body scope [] [] (He.ma K (He.ga K c) m) fd)
    (hb : ∀ (kV doc pm : Value) (an : Option Addr) (cdv ct : Value) (us : List Value), us.length = ps.length → bindArgs (PySem.W.fnOf x qual params body scope .none kV doc pm an cdv ct) ⟨us, []⟩ = pure (ps.zip us))
    (h : FnOk P w K mg base CX k (He.ma K (He.ga K c) m) fd ps sp) : Fm P w K mg base CX k c m ps sp := ⟨fd, h, F.bindsN hb⟩
/-! ### data that is compared -/
section
variable {α β : Type} {R : Rep α} {S : Rep β}
theorem pr_dp {d : α → PyData} {n : Nat} (h : Dt R d n) {K : PySem.W.Frag} {H : Hp} : ∀ {vs : List V} {xs : List α}, Paired (R.r H) vs xs → DpAll K H vs (xs.map d)
  | _, _, .nil => .nil
  | _, _, .cons r t => .cons (h.dp r) (pr_dp h t)
theorem layAll {d : α → PyData} {n : Nat} (h : Dt R d n) : ∀ xs : List α, PyData.plainAll (xs.map d) = true
  | [] => rfl
  | x :: xs => Bool.and_eq_true_iff.mpr ⟨h.lay x, layAll h xs⟩
theorem depAll {d : α → PyData} {n : Nat} (h : Dt R d n) : ∀ xs : List α, PyData.depthAll (xs.map d) ≤ n
  | [] => Nat.zero_le _
  | x :: xs => Nat.max_le.mpr ⟨h.dep x, depAll h xs⟩
theorem eqAll {d : α → PyData} {n : Nat} (h : Dt R d n) : ∀ xs ys : List α, PyData.eqvAll (xs.map d) (ys.map d) = true ↔ xs = ys
  | [], [] => by simp [PyData.eqvAll]
  | x :: xs, y :: ys => by
    simp only [List.map_cons, PyData.eqvAll, Bool.and_eq_true, h.eq, eqAll h xs ys, List.cons.injEq]
  | [], y :: ys => by simp [PyData.eqvAll]
  | x :: xs, [] => by simp [PyData.eqvAll]
theorem dtL {d : α → PyData} {n : Nat} (h : Dt R d n) : Dt (rL R) (fun xs => PyData.list (xs.map d)) (n + 1) :=
  ⟨fun ⟨a, vs, e, h2, h3⟩ => by rw [e]; exact .lst (Or.inl (Or.inl h2)) (pr_dp h h3), fun xs => layAll h xs, fun xs => Nat.succ_le_succ (depAll h xs), fun xs ys => by simp only [PyData.eqv]; exact eqAll h xs ys⟩
theorem dtP {d : α → PyData} {f : β → PyData} {n k : Nat} (h : Dt R d n) (h' : Dt S f k) : Dt (rP R S) (fun p => PyData.tuple [d p.1, f p.2]) (max n k + 1) :=
  ⟨fun ⟨a, x, y, e, h2, h3, h4⟩ => by rw [e]; exact .tup (Or.inl (Or.inl h2)) (.cons (h.dp h3) (.cons (h'.dp h4) .nil)), fun p => by
    show (PyData.plain _ && (PyData.plain _ && true)) = true
    rw [h.lay, h'.lay]; rfl, fun p => by
    show max (PyData.depth _) (max (PyData.depth _) 0) + 1 ≤ _
    have := h.dep p.1; have := h'.dep p.2; omega, fun p q => by
    simp only [PyData.eqv, PyData.eqvAll, Bool.and_eq_true, h.eq, h'.eq, and_true]
    exact ⟨fun ⟨a, b⟩ => Prod.ext a b, fun e => by subst e; exact ⟨rfl, rfl⟩⟩⟩
end
end Sim
namespace Sim
open PySem L2 Evl
section
variable {K : PySem.W.Frag} {σ : L2.St} {G0 H0 G H G2 H2 W : Hp} {ls : List Addr} {cs : Cs} {l C : Addr} {te : TE} {α β : Type} {R : Rep α} {S : Rep β} {ns : List Str}
/-- the script -/
def rScr (K : PySem.W.Frag) : Rep (List Int) := ⟨fun H v xs => ∃ a, v = .ref a ∧ SqL K H a (xs.map V.int), fun e ⟨a, h1, h2⟩ => ⟨a, h1, ex_l e h2⟩⟩
theorem rr_ixScr : RR (rIxL K) (rScr K) rI rI (fun xs i => atI xs i) := fun v w xs i z H G hv hw hz e Q q => by
  obtain ⟨a, rfl, h2⟩ := hv
  cases hw
  have hz' : (ixN xs.length i).bind (fun j => xs[j]?) = some z := hz
  cases hj : ixN xs.length i with
  | none => rw [hj] at hz'; cases hz'
  | some j =>
    rw [hj] at hz'
    have hz2 : xs[j]? = some z := hz'
    refine ⟨a, _, i, .int z, rfl, rfl, ex_l e h2, ?_, q _ H G (Up.refl e) rfl⟩
    show (ixN (xs.map V.int).length i).bind (fun j => (xs.map V.int)[j]?) = some (.int z)
    rw [List.length_map, hj]
    show (xs.map V.int)[j]? = _
    rw [List.getElem?_map, hz2]; rfl
theorem rc_lenScr : RC (rLn K) (aC (rScr K) aN) rI (fun i => some (i.1.length : Int)) := fun vs i z H G hv hz e Q q => by
  cases hz
  obtain ⟨v, ws, rfl, ⟨a, rfl, h2⟩, rfl⟩ := hv
  refine ⟨a, _, rfl, Or.inl (ex_l e h2), q _ H G (Up.refl e) ?_⟩
  show V.int _ = V.int _
  rw [List.length_map]
def powM (a b : Int) : Option Int := if 0 ≤ b ∧ b ≤ 1000000 ∧ a.natAbs < 2 ^ 64 then some (a ^ b.toNat) else none
theorem rr_pow : RR (L2.rI CPow fun i j => .int (i ^ j.toNat)) rI rI rI powM := rr_I fun i j z h => by
  unfold powM at h
  split at h
  · rename_i hc; cases h; exact ⟨hc, fun _ => rfl⟩
  · cases h
/-- self.NAME while self is being made -/
theorem e_conC {G' : Hp} {i j : Nat} {f : Str} {v : V} {uu : Value} {x : β} {ps : List Pd} (w : Wo G0 H0 ls G H cs) (hc : cs[j]? = some (l, cI C ns ps)) (hi : σ[i]? = some (some (.ref l))) (hC : Cls K C) (hk : Con K C f v uu) (hz : ns.contains f = false) (hv : ∀ H, S.r H v x) : E (tCon K (tVar i) f) σ G' H S (some x) := fun y hy H' e e' Q q => by
  cases hy
  obtain ⟨_, o, k2, dx, fs, rfl, k3⟩ := w.w.getAt hc
  exact ⟨.ref l, hi, l, C, dx, fs, v, uu, rfl, e' _ _ k2, hC, hk, look_no k3.1 hz, q _ H' G' (Up.refl e) (hv G')⟩
theorem el_listRg {m : Option Int} (h : E te σ G W rI m) : EL (tLstRg (tRg1 te)) σ G W rI (m >>= fun n => rngM 0 n) := fun z hz H e e' Q q => by
  obtain ⟨n, hn, hz⟩ := bindS hz
  refine h n hn H e e' _ fun v H1 G1 u r => ?_
  unfold rngM at hz
  split at hz
  · rename_i hb
    cases hz
    refine ⟨n, r, ⟨by omega, by omega, by omega, by omega, by omega⟩, fun p hp => q p _ G1 (fresh_back u.hh hp) (u.trans (up_new u.gh hp)) (wd_new u.gh hp ?_)⟩
    have : rgV 0 n = (rng 0 n).map V.int := by unfold rgV rng; rw [List.map_map]; rfl
    rw [this]
    exact ints_pr _
  · cases hz
end
end Sim

set_option maxHeartbeats 4000000
/-! own exceptions: an __init__ whose first statement is super().__init__(text) -/
namespace Sim
open PySem PySem.Spec PyProof.Rows L2 PySem.W PySem.Calls NdefX
section
variable {CX : CXT} {P : Program} {w : World} {K : PySem.W.Frag} {mg : Str → Option Value} {base : Heap} {N ps : List Str} {F : NF} {C f : Addr} {fd : FuncData} {k : Nat} {sp : Sp} {t : Str} {rest : List Stmt} {p0 p1 p2 p3 p4 pc : Pos} {j : Nat} {pl : Sem Bool}
theorem fn_exc (S : NScope N ps ["__class__"] F.scope) (Y : SupC P K mg C f fd F ps) (hbd : F.body = .Expr (.Call (.Attribute (.Call (.Name "super" p0) [] [] p1) "__init__" p2) [.Constant (.str t) j pc] [] p3) p4 :: rest)
    (hev : ∀ L : Addr, eval (.Call (.Attribute (.Call (.Name "super" p0) [] [] p1) "__init__" p2) [.Constant (.str t) j pc] [] p3) (envF F f L) = (do
      let ov ← attributeBase (.Call (.Name "super" p0) [] [] p1) "__init__" (envF F f L) (eval (.Call (.Name "super" p0) [] [] p1) (envF F f L))
      standAt p2.atName
      let (g, first) ← holding [ov] (getMethod ov "__init__" pl)
      callWith p3 g first (backTo p3 (starEach [.Constant (.str t) j pc] (envF F f L))) []))
    (hint : ∀ L : Addr, interactive (envF F f L) = false)
    (len : ∀ vs H Q E, sp vs H Q E → vs.length = ps.length)
    (hbody : ∀ (A : Around) (outer : List Env) (s : Shared) (H : Hp) (vs : List V) (Q : VK) (E : XK), Room k (A.deeper (envF F f s.heap.objs.size)) → sp vs H Q E →
      ∃ a vs', vs = .ref a :: vs' ∧ H a = some (exo a C none) ∧ ∃ t, PSs (ncx CX P w K mg base N F f A outer s H E) rest t ∧ t { nx := fun _ H' => Q .non H', rt := Q } (startF N vs [none]) H) :
    FnOk P w K mg base CX (k + 1) f fd ps sp := by
  obtain ⟨oc, od, osl, kV, doc, pm, an, ct, rfl, lk⟩ := Y.lk
  refine ⟨len, fun A outer s H args us vs Q E hr e0 hb r hsp => ?_⟩
  have hl := len _ _ _ _ hsp
  have KX : K.In s.heap := e0.mod.kin.keeps fun b o e => (e0.bs b o e).1
  have lim : s.heap.NoLimit := e0.mod.nolimit.keeps fun b o e => (e0.bs b o e).1
  refine codeAny_call_function hr.depth (KX _ _ lk) rfl S.co S.gen rfl (PySem.W.codeRec_of KX Y.cd) (hb _ _ _ _ ?_)
  refine wpAny_newFunctionEnv S.nocell (fun ⟨n, _⟩ hy => S.par n (List.of_mem_zip hy).1) (fun h₁ hns hsb => ⟨lim.fresh _ hsb, ?_⟩) S.kind
  show codeAny _ _ (.func F.body (envF F f s.heap.objs.size)) _ _
  have kp : ∀ b o, s.heap.get? b = some o → h₁.get? b = some o := fun b o e => hsb.extBut b o (Nat.ne_of_lt (Heap.lt_size e)) (Heap.get?_push_of_some _ e)
  obtain ⟨a, vs', rfl, ea, tt, ht, hq⟩ := hbody A outer s H vs Q E (hr.deeper _) hsp
  obtain ⟨cc, kc0, kc1, kc2, hcl, hcc⟩ := Y.cl
  have ccb : base.get? cc = some ⟨kc0, kc1, .cell (some (.ref C)), kc2⟩ := e0.mod.kin _ _ hcc
  have CA : CellsAt F.cl ["__class__"] [none] s.heap H := by
    rw [hcl]
    have look : ∀ y c, ([(("__class__" : Str), cc)] : List (Str × Addr)).lookup y = some c → y = "__class__" ∧ c = cc := fun y c e => by
      rw [List.lookup_cons] at e
      cases h : (y == ("__class__" : Str)) with
      | true => rw [h] at e; cases e; exact ⟨eq_of_beq h, rfl⟩
      | false => rw [h] at e; cases e
    refine ⟨rfl, fun y c e => ?_, fun x y c e1 e2 => ?_, fun i y e => ?_⟩
    · obtain ⟨_, rfl⟩ := look y c e
      exact ⟨(e0.bs _ _ ccb).2, _, ⟨_, (e0.bs _ _ ccb).1, rfl⟩⟩
    · rw [(look x c e1).1, (look y c e2).1]
    · cases i with
      | zero =>
        cases e
        exact ⟨cc, by rfl, fun v e => by cases e⟩
      | succ i => cases e
  have I : Inv (ncx CX P w K mg base N F f A outer s H E) [] (startF N (.ref a :: vs') [none]) H { s with heap := h₁, toks := s.toks + (ps.zip us).length } := inv_startN S hr.hd e0 hl r CA hns kp
  refine ks_codeAny_funcAt ?_
  have fin : ∀ {σ' : L2.St} {H' : Hp} {v : V} {u : Value} {s' : Shared}, Inv (ncx CX P w K mg base N F f A outer s H E) [] σ' H' s' → RelV v u → Q v H' → CE outer P w H s Q u s' :=
    fun {σ' H' v u s'} J rv q => ⟨v, H', J.os, J.bare, J.base, J.hok, rv, q⟩
  have tail : ∀ s1 : Shared, Inv (ncx CX P w K mg base N F f A outer s H E) [] (startF N (.ref a :: vs') [none]) H s1 →
      _root_.PySem.wpAt (model P w) (A.deeper (envF F f s.heap.objs.size)) (.func F.body (envF F f s.heap.objs.size)) (execs rest (envF F f s.heap.objs.size)) (fun f s' => CR CX outer P w H s Q E (.ok (.ret (match f with | .ret v => v | _ => .none))) s')
        (fun e s' => wpAny (model P w) (A.deeper (envF F f s.heap.objs.size)) (leaving (envF F f s.heap.objs.size) e) (fun _ s'' => CR CX outer P w H s Q E (.error e) s'') (fun e' s'' => CR CX outer P w H s Q E (.error e') s'') s') s1 := by
    intro s1 I1
    refine wpAt_of_wpAny (wpAny_mono (ht.run [] _ (startF N (.ref a :: vs') [none]) H _ I1 hq) (fun fl s' hs => ?_) fun e s' hs => hs)
    cases fl with
    | ret u =>
      obtain ⟨v, σ', H', J, rv, q⟩ := hs
      exact fin J rv q
    | next =>
      obtain ⟨σ', H', J, q⟩ := hs
      exact fin (v := V.non) (u := Value.none) J rfl q
    | brk =>
      obtain ⟨_, _, _, q⟩ := hs
      exact False.elim q
    | cont =>
      obtain ⟨_, _, _, q⟩ := hs
      exact False.elim q
  rw [hbd]
  rw [← hbd]
  refine (congrArg (fun z => _root_.PySem.wpAt (model P w) (A.deeper (envF F f s.heap.objs.size)) (.func F.body (envF F f s.heap.objs.size)) (execs z (envF F f s.heap.objs.size)) _ _ _) hbd).mpr ?_
  refine ks_wpAt_execs_cons (ks_wpAt_Expr_any (ks_wpAt_MethodCall ?_ (hev _)) (hint _))
  obtain ⟨ar, ps', hp, hps, hka⟩ := Y.par
  obtain ⟨ccl, cdd, cvs, ccs, file, tf, hcode, hvs, hfile⟩ := Y.code
  obtain ⟨cdD, hD⟩ := Y.cls
  obtain ⟨oD, hD1, hD2⟩ : ∃ oD, h₁.get? C = some oD ∧ oD.data = .cls cdD := by
    unfold clsIn at hD
    split at hD
    · rename_i c d cd' sl ho
      cases hD
      exact ⟨_, I.kIn _ _ ho, rfl⟩
    · cases hD
  obtain ⟨t1, ho⟩ := exo_at I.hok ea
  obtain ⟨mb, hb1, hb2⟩ := I.mod.blt
  have hboot : bootBuiltins "super" = some (.type "super") := by kernel_rfl
  refine ks_wpAt_super_base (env := envF F f s.heap.objs.size) (fd := PySem.W.fnX F.name F.qual F.params F.body F.scope F.cl .none kV doc pm an (.ref F.c) ct) Y.ks Y.kc (by decide) rfl (I.kIn _ _ lk) rfl hp rfl (I.kIn _ _ hcode) rfl hvs hfile Y.top ?_
  refine ks_loadName_global S.kind Y.ks (loadGlobal_builtin (env := envF F f s.heap.objs.size) (I.mod.glob.keeps I.bk) Y.mg (hb1.keeps I.bk) ((hb2 _ (by decide)).trans hboot) ⟨rfl, ?_⟩)
  refine wpAny_loadName_free S.kind Y.kc (show List.lookup ("__class__" : Str) F.cl = some cc by rw [hcl]; rfl) ⟨_, I.kIn _ _ hcc, rfl⟩ ?_
  have hself : (ps.zip us).reverse.lookup ar.arg = some (.ref a) := by
    have ndP : ps.Nodup := by
      have q := S.nd.sublist (List.take_sublist (ps.length + [("__class__" : Str)].length) N)
      rw [S.pre] at q
      exact (List.nodup_append.mp q).1
    cases r with
    | cons rx rr =>
      cases rx
      exact zip_look (i := 0) ndP (by rw [hps]; rfl) rfl
  refine wpAny_loadName_local S.kind hka hns hself ?_
  refine ks_wpAny_isType_cls hD1 hD2 ⟨rfl, ?_⟩
  refine ks_wpAny_call_super hD1 hD2 ho rfl (fun c e => by cases e) (looks_mroIn I.kIn Y.sub) (fun h2 e2 k2 => ?_)
  have I2 := I.kept (t' := s.toks + (ps.zip us).length) (h' := h2) k2
  have ho2 := k2 _ _ ho
  have A2 : InstAt h2 a { cls := .ref C, dict := none, data := .fields #[.ref t1, .none, .none, .none, .bool false, .none] } C none := ⟨ho2, rfl, rfl, trivial⟩
  have hI : Looks (model P w) h2 (isInstance (.ref a) (.type "ValueError")) true := A2.type.andThen (looks_subIn I2.kIn Y.ve)
  have hsu := Y.sup
  unfold ks_superIn at hsu
  rw [hD] at hsu
  refine kxs_getMethod kxs_ValueError e2 (looks_opaque I2.kIn Y.opq) (l₀ := cdD.mro) (fun A Q E s k q => wpAny_bind ((looks_clsIn I2.kIn hD) A _ E s k (wpAny_pure q))) rfl I2.kIn hsu hI (ks_ne I2.kIn A2 hD) (by decide) ?_
  have I3 := I2.kept (t' := s.toks + (ps.zip us).length + 1) (h' := h2.push (kxs_mw "ValueError.__init__" a)) (fun b o e => Heap.get?_push_of_some _ e)
  have hu : (h2.push (kxs_mw "ValueError.__init__" a)).get? h2.objs.size = some (kxs_mw "ValueError.__init__" a) := Heap.get?_push_at rfl rfl
  refine kxs_callWith (i := "ValueError.__init__") (x := a) rfl ?_
  refine evalArgs_plain (spliced_cons ?_)
  show wpAny _ _ (eval (.Constant (.str t) j pc) (envF F f s.heap.objs.size)) _ _ _
  refine Calls.Constant_str (spliced_nil ⟨hu, ?_⟩)
  obtain ⟨nm, q, NN, bs, bm, sn, sub, ab, col, dd, k0, k1, k2', k3, k5, hC, hbm⟩ := Y.ex.cls
  have hC3 := I3.kIn _ _ hC
  have ho3 : (h2.push (kxs_mw "ValueError.__init__" a)).get? a = some (PySem.W.excObj C t1 none .none) := Heap.get?_push_of_some _ ho2
  refine wpAny_call (codeAny_of_tree ?_)
  show wpAny _ (A.deeper (envF F f s.heap.objs.size)).in1 (callAny (.ref h2.objs.size) ⟨_, []⟩) _ _ _
  simp only [callAny]
  refine wpAny_bind (wpAny_load hu ?_)
  simp only [kxs_mw, show (Value.type "method-wrapper" == Value.type "method" || Value.type "method-wrapper" == Value.type "builtin_function_or_method" || Value.type "method-wrapper" == Value.type "method-wrapper") = true by decide, if_true]
  refine KFB.if_so (by decide) ?_
  refine wpAny_bind (check_bound_init PySem.F.excBase_ValueError.toExcCallFacts hC3 ho3 rfl ?_)
  refine wpAny_bind (wpAny_pure (wpAny_pure ?_))
  refine ⟨plainId_quiet PySem.F.excBase_ValueError.init.plain _, codeAny_builtin PySem.F.excBase_ValueError.initEntry ?_⟩
  refine exc_init_tree (cls := .ref C) (t0 := t1) (dv := none) (c2 := .none) (c3 := .none) (b4 := .bool false) ho3 (by rw [sizeLine_eq]; simp) (fun h4 kk e4 t4 => ?_)
  have J := I3.write (h' := h4) (t' := s.toks + (ps.zip us).length + 1 + 1) (x := a) (e := a) (o := exo a C none) (by rw [ea]; exact True.intro) (.inl rfl) kk ⟨_, e4⟩ (exo_ok e4)
  have eu : upd H a (exo a C none) = H := by
    funext b
    by_cases hb : b = a
    · rw [hb, upd_same, ea]
    · rw [upd_ne hb]
  rw [eu] at J
  exact tail _ J
end
end Sim

/-! own exceptions: what the top's end says of them -/
namespace Sim
open PySem PySem.Spec PyProof.Rows L2 PySem.W PySem.Calls NdefX
end Sim

/-! own exceptions raised: their mirrors and promises -/
namespace Sim
open PySem PySem.Spec PyProof.Rows L2 Evl NdefX
/-- what the __init__ of an own exception keeps: names the fields, in order -/
def spX (C : Addr) (names : List Str) : Sp := fun vs H Q _ => ∃ a ws, vs = .ref a :: ws ∧ ws.length = names.length ∧ H a = some (exo a C none) ∧
  ∀ dx, H dx = none → dx ≠ a → Q .non (upd (upd H dx (exd dx (names.zip ws).reverse)) a (exo a C (some dx)))
section
variable {K : PySem.W.Frag} {σ : L2.St} {G H G0 H0 : Hp} {ls : List Addr} {cs : Cs} {ta : TA} {ι : Type} {A : AR ι}
theorem x_raise {C : Addr} {names : List Str} {m : Option ι} {i : ι} {W : WX} {D : Ends} {tz : TS} (w : Wo G0 H0 ls G H cs) (ha : EA ta σ G H A m) (hm : m = some i)
    (hl : ∀ G vs, A.r G vs i → vs.length = names.length ∧ vs.length ≤ 1000)
    (k : ∀ vs H2 G2 d, Wo G0 H0 ls G2 H2 cs → A.r G2 vs i → Ex G G2 → G2 d = some (.xd (names.zip vs).reverse) → W (.ref C) (some d) σ H2) :
    tSeq (fun _ σ H => tMkO C (spX C names) [] ta σ H fun cls d H' => W cls d σ H') tz D σ H := by
  refine ha i hm H w.ex (Ex.refl _) _ fun vs H1 G1 u r => ?_
  obtain ⟨h1, h2⟩ := hl _ _ r
  refine ⟨h2, fun a na => ⟨a, vs, by rw [List.append_nil], h1, upd_same .., fun dx hdx hne => ⟨rfl, dx, (names.zip vs).reverse, upd_same .., ?_, ?_, ?_⟩⟩⟩
  · rw [upd_ne hne, upd_same]
  · rw [upd_ne hne] at hdx; exact hdx
  · have hdx' : H1 dx = none := by rw [upd_ne hne] at hdx; exact hdx
    have e : upd (del (upd (upd (upd H1 a (exo a C none)) dx (exd dx (names.zip vs).reverse)) a (exo a C (some dx))) a) dx (.xd (names.zip vs).reverse) = upd H1 dx (.xd (names.zip vs).reverse) := by
      funext b
      by_cases hb : b = dx
      · subst hb; rw [upd_same, upd_same]
      · rw [upd_ne hb, upd_ne hb]
        by_cases hba : b = a
        · subst hba; rw [del_same, na]
        · rw [del_ne hba, upd_ne hba, upd_ne hb, upd_ne hba]
    rw [e]
    have u2 := Up.lay (o := HO.xd (names.zip vs).reverse) u.gh hdx'
    have u3 := u.trans u2
    exact k vs _ _ dx ((w.up u).up u2) (A.mono u2.gg r) u3.gg (upd_same ..)
end
end Sim

/-! the __init__ of an own exception, walked -/
namespace Sim
open PySem PySem.Spec PyProof.Rows L2 Evl NdefX
/-- self.f = the i-th name, for each of these -/
def tFlds (K : PySem.W.Frag) : List (Str × Nat) → TS
  | [] => tNext
  | q :: r => tSeq (tOst K q.1 (tVar 0) (tVar q.2)) (tFlds K r)
section
variable {K : PySem.W.Frag} {σ : L2.St} {H : Hp} {a C dx : Addr} {D : Ends}
theorem flds_go (T : OexC K C) (ha : σ[0]? = some (some (.ref a))) (hne : dx ≠ a) : ∀ (r : List (Str × Nat × V)) (fs : List (Str × V)) (H : Hp), (∀ q ∈ r, PySem.W.findIn K (.ref C) q.1 = some none ∧ σ[q.2.1]? = some (some q.2.2)) →
    fs.length + r.length ≤ 900 → H a = some (exo a C (some dx)) → H dx = some (exd dx fs) → D.nx σ (upd H dx (exd dx ((r.map fun q => (q.1, q.2.2)).reverse ++ fs))) → tFlds K (r.map fun q => (q.1, q.2.1)) D σ H
  | [], fs, H, _, _, hA, hD, k => by
    have e : upd H dx (exd dx fs) = H := by
      funext b
      by_cases hb : b = dx
      · rw [hb, upd_same, hD]
      · rw [upd_ne hb]
    have k : D.nx σ (upd H dx (exd dx fs)) := k
    rw [e] at k
    exact k
  | (f, i, y) :: r, fs, H, hq, hl, hA, hD, k => by
    obtain ⟨h1, h2⟩ := hq _ (List.mem_cons_self ..)
    simp only [List.length_cons] at hl
    refine ⟨y, h2, .ref a, ha, a, C, rfl, T, h1, Or.inr ⟨dx, fs, hA, hD, by omega, ?_⟩⟩
    refine flds_go T ha hne r ((f, y) :: fs) _ (fun q h => hq q (List.mem_cons_of_mem _ h)) (by simp only [List.length_cons]; omega) ?_ (upd_same ..) ?_
    · rw [upd_ne (Ne.symm hne)]; exact hA
    · have e : upd (upd H dx (exd dx ((f, y) :: fs))) dx (exd dx ((r.map fun q => (q.1, q.2.2)).reverse ++ (f, y) :: fs)) = upd H dx (exd dx ((((f, i, y) :: r).map fun q => (q.1, q.2.2)).reverse ++ fs)) := by
        funext b
        by_cases hb : b = dx
        · rw [hb, upd_same, upd_same]; simp
        · rw [upd_ne hb, upd_ne hb, upd_ne hb]
      rw [e]
      exact k
theorem flds_all (T : OexC K C) (ha : σ[0]? = some (some (.ref a))) {q0 : Str × Nat × V} {r : List (Str × Nat × V)} (hq : ∀ q ∈ q0 :: r, PySem.W.findIn K (.ref C) q.1 = some none ∧ σ[q.2.1]? = some (some q.2.2)) (hl : r.length ≤ 800) (hA : H a = some (exo a C none))
    (k : ∀ dx, H dx = none → dx ≠ a → D.nx σ (upd (upd H dx (exd dx ((q0 :: r).map fun q => (q.1, q.2.2)).reverse)) a (exo a C (some dx)))) : tFlds K ((q0 :: r).map fun q => (q.1, q.2.1)) D σ H := by
  obtain ⟨f, i, y⟩ := q0
  obtain ⟨h1, h2⟩ := hq _ (List.mem_cons_self ..)
  refine ⟨y, h2, .ref a, ha, a, C, rfl, T, h1, Or.inl ⟨hA, fun dx hdx hne => ?_⟩⟩
  refine flds_go T ha hne r [(f, y)] _ (fun q h => hq q (List.mem_cons_of_mem _ h)) (by simp; omega) (upd_same ..) (by rw [upd_ne hne, upd_same]) ?_
  have e : upd (upd (upd H dx (exd dx [(f, y)])) a (exo a C (some dx))) dx (exd dx ((r.map fun q => (q.1, q.2.2)).reverse ++ [(f, y)])) = upd (upd H dx (exd dx (((f, i, y) :: r).map fun q => (q.1, q.2.2)).reverse)) a (exo a C (some dx)) := by
    funext b
    by_cases hb : b = dx
    · rw [hb, upd_same, upd_ne hne, upd_same]; simp
    · rw [upd_ne hb]
      by_cases hba : b = a
      · rw [hba, upd_same, upd_same]
      · rw [upd_ne hba, upd_ne hba, upd_ne hb, upd_ne hb]
  rw [e]
  exact k dx hdx hne
end
section
variable {CX : CXT} {P : Program} {w : World} {K : PySem.W.Frag} {mg : Str → Option Value} {base : Heap} {N ps : List Str} {F : NF} {C f : Addr} {fd : FuncData} {k : Nat} {t : Str} {rest : List Stmt} {p0 p1 p2 p3 p4 pc : Pos} {j : Nat} {pl : Sem Bool} {names : List Str} {fi : List (Str × Nat)}
theorem xinit (S : NScope N ps ["__class__"] F.scope) (Y : SupC P K mg C f fd F ps) (hbd : F.body = .Expr (.Call (.Attribute (.Call (.Name "super" p0) [] [] p1) "__init__" p2) [.Constant (.str t) j pc] [] p3) p4 :: rest)
    (hev : ∀ L : Addr, eval (.Call (.Attribute (.Call (.Name "super" p0) [] [] p1) "__init__" p2) [.Constant (.str t) j pc] [] p3) (envF F f L) = (do
      let ov ← attributeBase (.Call (.Name "super" p0) [] [] p1) "__init__" (envF F f L) (eval (.Call (.Name "super" p0) [] [] p1) (envF F f L))
      standAt p2.atName
      let (g, first) ← holding [ov] (getMethod ov "__init__" pl)
      callWith p3 g first (backTo p3 (starEach [.Constant (.str t) j pc] (envF F f L))) []))
    (hint : ∀ L : Addr, interactive (envF F f L) = false) (hno : ∀ f ∈ names, PySem.W.findIn K (.ref C) f = some none) (hps : ps.length = names.length + 1)
    (hr : ∀ (a : Addr) (ws : List V), ws.length = names.length → ∃ (q0 : Str × Nat × V) (r : List (Str × Nat × V)), r.length ≤ 800 ∧ ((q0 :: r).map fun q => (q.1, q.2.1)) = fi ∧ ((q0 :: r).map fun q => (q.1, q.2.2)) = names.zip ws ∧ ∀ q ∈ q0 :: r, q.1 ∈ names ∧ (startF N (.ref a :: ws) [none])[q.2.1]? = some (some q.2.2))
    (hrest : ∀ (A : Around) (outer : List Env) (s : Shared) (H : Hp) (E : XK), PSs (ncx CX P w K mg base N F f A outer s H E) rest (tFlds K fi)) :
    FnOk P w K mg base CX (k + 1) f fd ps (spX C names) := by
  refine fn_exc S Y hbd hev hint (fun vs H Q E h => ?_) (fun A outer s H vs Q E _ h => ?_)
  · obtain ⟨a, ws, rfl, h, _⟩ := h
    rw [List.length_cons, h, hps]
  · obtain ⟨a, ws, rfl, hl, hA, kk⟩ := h
    refine ⟨a, ws, rfl, hA, _, hrest A outer s H E, ?_⟩
    obtain ⟨q0, r, h1, h2, h3, h4⟩ := hr a ws hl
    rw [← h2]
    refine flds_all Y.ex (a := a) (by rfl) (fun q hq => ⟨hno _ (h4 q hq).1, (h4 q hq).2⟩) h1 hA (fun dx hdx hne => ?_)
    rw [h3]
    exact kk dx hdx hne
end
end Sim

/-! calls that may raise, at the caller's slots; try -/
namespace L2
open PySem PySem.Spec PyProof.Rows
section
variable {X : Cx} {CX : CXT} {k : Nat} {f C : Addr} {fd : FuncData} {ps : List Str} {sp : Sp} {E : St → XK} {x m : Str} {p pos apos : Pos} {e o : Expr} {es : List Expr} {ta : TE} {t : TA}
end
end L2
namespace Sim
open PySem PySem.Spec PyProof.Rows L2 Evl
section
variable {K : PySem.W.Frag} {σ : L2.St} {G H W G0 H0 : Hp} {ls : List Addr} {cs : Cs} {ta : TA} {to te : TE} {ι α β γ : Type} {A : AR ι} {R : Rep α} {S : Rep β} {T : Rep γ} {t u : TS} {D : Ends}
/-- a reading that may raise -/
def EX (K : PySem.W.Frag) (te : TE) (σ : L2.St) (G W : Hp) (R : Rep α) (m : Option (Xn ⊕ α)) (Wx : XK) : Prop :=
  ∀ r, m = some r → ∀ H, Ex G H → Ex W H → ∀ Q : VK, (∀ e, r = .inl e → ∀ d H2 G2, Up G H G2 H2 → Xat K G2 e d → Wx (.ref (He.ga K e.cls)) (some d) H2) → (∀ x, r = .inr x → ∀ v H2 G2, Up G H G2 H2 → R.r G2 v x → Q v H2) → te σ H Q
/-- f(..), alone -/
theorem x_callX {tz : TS} {m : Option (Xn ⊕ α)} {r : Xn ⊕ α} {Wx : XK} (w : Wo G0 H0 ls G H cs) (h : EX K te σ G H R m Wx) (hm : m = some r) (kx : ∀ e, r = .inl e → ∀ d H2 G2, Wo G0 H0 ls G2 H2 cs → Ex G G2 → Xat K G2 e d → Wx (.ref (He.ga K e.cls)) (some d) H2)
    (k : ∀ x, r = .inr x → ∀ H2 G2, Wo G0 H0 ls G2 H2 cs → Ex G G2 → tz D σ H2) : tSeq (tDrop te) tz D σ H :=
  h r hm H w.ex (Ex.refl _) (fun _ H1 => tz D σ H1) (fun e he d H2 G2 u x => kx e he d H2 G2 (w.up u) u.gg x) fun x hx v H2 G2 u _ => k x hx H2 G2 (w.up u) u.gg
/-- x = f(..) -/
theorem x_setX {tz : TS} {i : Nat} {m : Option (Xn ⊕ α)} {r : Xn ⊕ α} {Wx : XK} (w : Wo G0 H0 ls G H cs) (h : EX K te σ G H R m Wx) (hm : m = some r) (kx : ∀ e, r = .inl e → ∀ d H2 G2, Wo G0 H0 ls G2 H2 cs → Ex G G2 → Xat K G2 e d → Wx (.ref (He.ga K e.cls)) (some d) H2)
    (k : ∀ x, r = .inr x → ∀ v H2 G2, Wo G0 H0 ls G2 H2 cs → Ex G G2 → R.r G2 v x → tz D (σ.set i (some v)) H2) : tSeq (tAsg te (gName i)) tz D σ H :=
  h r hm H w.ex (Ex.refl _) (fun x H1 => gName i x σ H1 (tz D)) (fun e he d H2 G2 u x => kx e he d H2 G2 (w.up u) u.gg x) fun x hx v H2 G2 u y => k x hx v H2 G2 (w.up u) u.gg y
end
end Sim

/-! try with several clauses, each with or without a name -/
namespace L2
open PySem PySem.Spec PyProof.Rows
section
variable {X : Cx} {pins : List (Addr × Obj)} {σ : L2.St} {H : Hp} {cls : Value} {d : Option Addr} {a : Addr} {B : Heap} {sI s : Shared}
end
section
variable {X : Cx} {body : List Stmt} {h₀ : ExceptHandler} {hds : List ExceptHandler} {l : List Cla} {pos : Pos} {tb : WX → TS} {Wout : WX}
theorem ps_tryA (hN : X.N.Nodup) (hs : X.stack = X.env :: X.outer) (hf : X.env.frame = some X.env.locals) (tk : Takes X Wout)
    (hb : ∀ (W : WX) (pn : List (Addr × Obj)) (xe : Value → Shared → Prop), Takes (X.tr pn xe) W → PassesOwn (model X.prog X.w) X.A X.env xe → PSs (X.tr pn xe) body (tb W))
    (hh : HdsA X (h₀ :: hds) l) : PS X (.Try body (h₀ :: hds) [] [] pos) (fun D σ H => tb (wManyA X.K Wout D l) D σ H) := by
  refine ⟨fun pins s σ H D I h => wpAny_Try_except ?_⟩
  have ok := I.ok
  refine wpAny_mono ((hb _ (X.pn ++ pins) (fun e s₁ => wpAny (model X.prog X.w) X.A (noteFrame e X.env) (fun _ s₂ => wpAny (model X.prog X.w) X.A (setFlight e none) (fun _ s₃ =>
    wpAny (model X.prog X.w) X.A (handleBy e X.env (h₀ :: hds)) (SP X pins D) X.xe s₃) X.xe s₂) X.xe s₁) (fun u s' xx => ?_) PassesOwn.looking).run [] s σ H D (I.toTry _) h) (fun f s1 hsp => ?_) (fun e s1 he => he)
  · obtain ⟨a, B, sI, pins', σ', H', cls, d, rfl, J, nb, up, sky, na, os, ag, w⟩ := xx
    have sky' : Sky B (X.env :: X.outer) a (Zc cls d) X.env.locals s'.heap := by rw [← hs]; exact sky
    refine Sky.land Zc.steady (by rw [ok.frames, hs]) hf sky' fun h3 fl3 up3 => ?_
    exact Aloft.go (s := { s' with heap := h3 }) ⟨J.ofTry ok, nb, up.trans up3, by rw [hs]; exact fl3, na, os, ag⟩ ok hN hs hf tk hh w
  · cases f with
    | ret u => obtain ⟨v, σ', H', J, r, q⟩ := hsp; exact ⟨v, σ', H', J.ofTry ok, r, q⟩
    | next => obtain ⟨σ', H', J, q⟩ := hsp; exact wpAny_execs_nil ⟨σ', H', J.ofTry ok, q⟩
    | brk => obtain ⟨σ', H', J, q⟩ := hsp; exact ⟨σ', H', J.ofTry ok, q⟩
    | cont => obtain ⟨σ', H', J, q⟩ := hsp; exact ⟨σ', H', J.ofTry ok, q⟩
end
end L2

/-! the hook with own exceptions -/
namespace Sim
open PySem PySem.Spec PyProof.Rows L2 Evl
/-- a static method m of the class C -/
structure StatOf (K : PySem.W.Frag) (C : Addr) (m : Str) (p g : Addr) : Prop where
  ga : PySem.W.specialIn K (.ref C) "__getattribute__" = some (some (.builtin "type.__getattribute__"))
  ty : PySem.W.typeIn K (.ref C) = some (.type "type")
  rd : PySem.W.readsIn K C (.type "type") = true
  at_ : PySem.W.findCls K (.ref C) (.type "type") m = some (.get (.builtin "staticmethod.__get__") (.ref p) .none (.ref C))
  rc : ∃ rest, PySem.W.recIn K p "staticmethod" = some (.ref g :: rest)
  hd : PySem.W.handedIn (.ref g) = true
theorem obsXG_eq {n : Nat} {fa : List He.Fa} {fn : List He.DefD} {ex : List (PySem.W.Frag → Bool)} {xs : List XcD} {gs : List GeD} {file : Str} {g : Addr → Option Obj} {s : Shared} (h : ∀ a, g a = s.heap.get? a) : obsXG n fa fn ex xs gs file g = (hookX n fa fn ex xs gs file).obs s := by
  have e : g = s.heap.get? := funext h
  rw [e] <;> rfl
section
variable {fa : List He.Fa} {fn : List He.DefD} {es : List (PySem.W.Frag → Bool)} {xs : List XcD} {gs : List GeD} {file : Str} {K : PySem.W.Frag} {mg : Str → Option Value}
theorem TxX.mk' {h : Heap} (KX : K.In h) (G : h.Ns mainGlobals mg) (c : SaysX fa fn es xs gs file K) : TxX fa fn es xs gs file K mg := by
  obtain ⟨h1, h2⟩ := He.ba c.x
  obtain ⟨h2, h3⟩ := He.ba h2
  exact ⟨⟨⟨⟨h, KX, G⟩, c.d⟩, h1⟩, h2, c.y, h3, c.g⟩
theorem TxX.xc (T : TxX fa fn es xs gs file K mg) (i : Nat) {d : XcD} (h : xs[i]? = some d) : fnY K d.cls = d.val ∧ d.ok K file = true := by
  have e2 : (xs.map fun d => fnY K d.cls)[i]? = (xs.map XcD.val)[i]? := by rw [T.xv]
  rw [List.getElem?_map, List.getElem?_map, h] at e2
  exact ⟨Option.some.inj e2, List.all_eq_true.mp T.xo d (List.mem_of_getElem? h)⟩
end
theorem noB_ok {C f : Str} {K : PySem.W.Frag} (h : noB C f K = true) : PySem.W.findIn K (.ref (He.ga K C)) f = some none := of_decide_eq_true h
theorem exmB_ok {C D : Str} {b : Bool} {K : PySem.W.Frag} (h : exmB C D b K = true) : PySem.W.exmOne K (.ref (He.ga K C)) (.ref (He.ga K D)) = some b := of_decide_eq_true h
end Sim

/-! isinstance of a caught exception that has fields; properties -/
namespace PySem.W
open PySem PySem.Calls PyProof.Rows PySem.Spec
section
variable {prog : Program} {w : World} {A : Around} {E : Value → Shared → Prop} {s : Shared} {K : Frag} {x D : Addr} {ox : Obj} {od : Obj}
theorem exc_class {Q : Option Value → Shared → Prop} (C : L2.ExcC K D) (X : K.In s.heap) (I : InstAt s.heap x ox D (some od)) (h : Q (some (.ref D)) { s with toks := s.toks + 1 }) : wpAny (model prog w) A (getAttr? (.ref x) "__class__") Q E s := by
  have hf : findObj K D (some od) "__class__" = some (.bind (.builtin "getset_descriptor.__get__") (.builtin "object.__class__")) := findObj_data (by obtain ⟨cd, hc, _⟩ := any_some C.hd; rw [hc]; rfl) C.ha C.hn C.ht
  obtain ⟨hp, g, d, t, os⟩ := s
  have ty := I.type (M := model prog w)
  have ne : (Value.builtin "BaseException.__getattribute__" == Value.builtin "object.__getattribute__") = false := by decide +kernel
  unfold getAttr? getAttrBy? getAttrBy
  refine wpAny_bind (wpAny_mkText (wpAny_bind (wpAny_attempt (wpAny_holding (wpAny_bind (ty.at (wpAny_bind ((looks_findIn (M := model prog w) X C.hg).at ?_))))))))
  refine KFB.if_not (by rw [ne]; rfl) ?_
  unfold getAttrByItsOwn hookBefore callGetattribute boundAndCalled
  refine wpAny_bind (KFB.if_so rfl ((looks_findIn (M := model prog w) X C.hk).at ?_))
  refine wpAny_bind (wpAny_attempt (wpAny_holding (KFB.if_not rfl ?_)))
  rw [PySem.F.excAttr_ValueError.ga.bind (.ref x)]
  refine wpAny_bind (wpAny_pure ?_)
  show wpAny _ _ (call (.builtin "BaseException.__getattribute__") [.ref x, .str "__class__" t]) _ _ _
  refine wpAny_call (codeAny_call_builtin PySem.F.excAttr_ValueError.ga.plain PySem.F.entry_bexc_ga ?_)
  refine @check_slot (model prog w) _ _ ⟨hp, g, d, t + 1, os⟩ "BaseException.__getattribute__" "BaseException" "__getattribute__" (.ref x) [.str "__class__" t] [] _ (by decide +kernel) (by decide +kernel) (ty.andThen (looks_subIn X C.hs)) (PySem.F.args_bexc_ga (.ref x) (.str "__class__" t)) ?_
  unfold Builtin.«object.__getattribute__»
  refine wpAny_bind (wpAny_of_eq (a := ((Value.ref x : Value), [Value.str "__class__" t])) (by first | rfl | (simp only [slotArgs]; rfl)) ?_)
  refine wpAny_bind (wpAny_pure (wpAny_bind (ty.at (wpAny_bind ((looks_find (M := model prog w) X I hf).at ?_)))))
  refine wpAny_bind (wpAny_holding (wpAny_call (class_get (s := ⟨hp, g, d, t + 1, os⟩) (ox := ox) (od := some od) X I C.hm ?_)))
  refine wpAny_pure ?_
  show wpAny _ _ (handedOut (.ref D)) _ _ _
  rw [handedOut_of (v := .ref D) rfl]
  first
    | exact wpAny_pure (wpAny_pure h)
    | exact wpAny_pure h
    | exact wpAny_pure (wpAny_bind (wpAny_pure (wpAny_pure h)))
end
end PySem.W
namespace L2
open PySem PySem.Spec PyProof.Rows
/-- isinstance(e, c), e the caught exception, its dict at dd -/
def rIsX (K : PySem.W.Frag) (D a dd : Addr) : List V → Hp → VK → Prop := fun xs H Q => ∃ (c : V) (cv : Value) (b : Bool) (fs : List (Str × V)), xs = [.ref a, c] ∧ (∀ u, RelV c u → u = cv) ∧ PySem.W.kitOne K (.ref D) cv = some b ∧ H dd = some (.xd fs) ∧ Q (.bl b) H
theorem call_isX {X : Cx} {a D dd : Addr} {oe : Obj} {pn : List (Addr × Obj)} (C : ExcC X.K D) (hz : Zc (.ref D) (some dd) oe) (hf : ∃ vs, oe.data = .fields vs) : CallR (X.suite a ((a, oe) :: pn)) (.builtin "isinstance") (rIsX X.K D a dd) := by
  intro pins s σ H xs us Q I r h
  obtain ⟨c, cv, b, fs, rfl, hcv, e, hd, q⟩ := h
  cases r with
  | cons rx rr =>
    cases rr with
    | cons rt rr =>
      cases rr
      cases rx
      have ec := hcv _ rt
      subst ec
      obtain ⟨hget, _⟩ := I.pin (a, oe) (List.mem_append.mpr (.inl List.mem_cons_self))
      obtain ⟨vs, hv⟩ := hf
      obtain ⟨mA, hns, _⟩ : ObjOk X.prog X.w H s.heap dd (.xd fs) := I.hok dd _ hd
      obtain ⟨od, ho, _⟩ := lookIn_ns hns
      have J : PySem.W.InstAt s.heap a oe D (some od) := ⟨hget, hz.1, by unfold PySem.W.notCls; rw [hv] <;> rfl, by rw [hz.2]; exact ho⟩
      have Z : PySem.W.KitX X.K (.ref a) (.ref D) (fun h => PySem.W.InstAt h a oe D (some od)) := {
        ty := fun _ _ _ I => I.type
        it := (fun _ _ Y _ => by
          obtain ⟨cd, hc, _⟩ := PySem.W.any_some C.hd
          unfold PySem.W.clsIn at hc
          split at hc
          · rename_i ho
            intro A' Q' E' s' k q
            unfold isType loadHead
            exact wpAny_bind (wpAny_loadPart (k _ _ (Y _ _ ho)) (wpAny_pure q))
          · cases hc)
        ne := (PySem.W.handS_kitx_exc (x := a) (ox := oe) C.hg C.hk C.hs C.hd C.ha C.hn C.ht C.hm).ne
        ca := fun Y I k => PySem.W.exc_class C Y I k }
      exact PySem.W.kia_one Z I.kIn J e (fun z => nomatch z) fun tk => ⟨.bl b, H, I.kept (t' := tk) fun _ _ z => z, rfl, q⟩
end L2
namespace Sim
open PySem PySem.Spec PyProof.Rows L2 Evl
section
variable {K : PySem.W.Frag} {σ : L2.St} {G H W : Hp} {to : TE} {ta : TA} {α γ : Type} {T : Rep γ}
end
end Sim

namespace Sim
open PySem PySem.Spec PyProof.Rows L2 Evl
theorem look_app {α : Type} {f : Str} {x : α} : ∀ {l r : List (Str × α)}, (∀ y, (f, y) ∉ l) → (l ++ [(f, x)]).lookup f = some x
  | [], _, _ => by simp [List.lookup]
  | (g, y) :: l, r, h => by
    have hg : (f == g) = false := by
      rw [beq_eq_false_iff_ne]
      rintro rfl
      exact h y (List.mem_cons_self ..)
    rw [List.cons_append, List.lookup_cons, hg]
    exact look_app (r := r) fun z hz => h z (List.mem_cons_of_mem _ hz)
theorem look_app' {α : Type} {f g : Str} {x : α} (hne : f ≠ g) : ∀ {l : List (Str × α)} {y : α}, l.lookup f = some y → (l ++ [(g, x)]).lookup f = some y
  | [], _, h => by cases h
  | (k, z) :: l, y, h => by
    rw [List.cons_append, List.lookup_cons]
    rw [List.lookup_cons] at h
    cases e : (f == k) with
    | true => rw [e] at h; exact h
    | false => rw [e] at h; exact look_app' hne h
/-- the fields of a raised exception, from what its arguments tell -/
theorem look_rev {K : PySem.W.Frag} {G : Hp} : ∀ {names : List Str} {vs : List V} {xs : List Xv} {f : Str} {x : Xv}, names.Nodup → Paired ((rX K).r G) vs xs → (names.zip xs).lookup f = some x → ∃ v, (names.zip vs).reverse.lookup f = some v ∧ (rX K).r G v x
  | [], vs, xs, f, x, _, _, h => by cases h
  | n :: names, [], xs, f, x, _, r, h => by cases r; cases h
  | n :: names, v :: vs, [], f, x, _, r, h => by cases r
  | n :: names, v :: vs, y :: xs, f, x, nd, r, h => by
    cases r with
    | cons r1 r2 =>
    obtain ⟨hn, nd⟩ := List.nodup_cons.mp nd
    rw [List.zip_cons_cons, List.lookup_cons] at h
    rw [List.zip_cons_cons, List.reverse_cons]
    cases e : (f == n) with
    | true =>
      rw [e] at h
      cases h
      have : f = n := eq_of_beq e
      subst this
      exact ⟨v, look_app (r := []) (fun z hz => hn (List.of_mem_zip (List.mem_reverse.mp hz)).1), r1⟩
    | false =>
      rw [e] at h
      obtain ⟨u, h1, h2⟩ := look_rev nd r2 h
      exact ⟨u, look_app' (beq_eq_false_iff_ne.mp e) h1, h2⟩
theorem Xat_mk {K : PySem.W.Frag} {G : Hp} {d : Addr} {names : List Str} {vs : List V} {xs : List Xv} {cls : Str} (nd : names.Nodup) (hd : G d = some (.xd (names.zip vs).reverse)) (r : Paired ((rX K).r G) vs xs) : Xat K G ⟨cls, names.zip xs⟩ d :=
  ⟨_, hd, fun f x h => look_rev nd r h⟩
end Sim

/-! a class made whose __init__ may raise; isinstance of whatever was caught; tables of exception classes -/
namespace L2
open PySem PySem.Spec PyProof.Rows
section
variable {X : Cx} {CX : CXT} {k : Nat} {f C : Addr} {fd : FuncData} {ps : List Str} {sp : Sp} {E : St → XK} {x m : Str} {p pos apos : Pos} {e o : Expr} {es : List Expr} {ta : TE} {t : TA}
/-- C(e, ..), what is raised wished for at the slots -/
def tMakeT (C : Addr) (sp : Sp) (E : St → XK) (t : TA) : TE := fun σ H Q => t σ H fun vs H1 => ∀ x dx, H1 x = none → H1 dx = none → dx ≠ x → sp (.ref x :: vs) (upd (upd H1 dx (.own x)) x (.ins C dx [])) (fun v H2 => v = .non ∧ Q (.ref x) H2) (E σ)
theorem run_makeT {pins : List (Addr × Obj)} {σ : St} {H : Hp} {s : Shared} {Q : VK} {us : List Value} {vs : List V} (M : Mk X.K C f) (F : FnOk X.prog X.w X.K X.mg X.base CX k f fd ps sp) (hr : Room (k + 1) X.A) (hb : Binds X.K fd ps [])
    (hx : PassesAt CX X σ (E σ)) (I : Inv X pins σ H s) (r : Vals vs us)
    (h : ∀ x dx, H x = none → H dx = none → dx ≠ x → sp (.ref x :: vs) (upd (upd H dx (.own x)) x (.ins C dx [])) (fun v H2 => v = .non ∧ Q (.ref x) H2) (E σ)) :
    wpAny (model X.prog X.w) X.A (call (.ref C) us) (EP X pins σ Q) X.xe s := by
  have hq := h (s.heap.objs.size + 1) s.heap.objs.size (I.hok.fresh (Nat.le_succ _)) (I.hok.fresh (Nat.le_refl _)) (Nat.ne_of_lt (Nat.lt_succ_self _))
  have I2 := Inv.made (C := C) I
  have r2 : Vals (V.ref (s.heap.objs.size + 1) :: vs) (Value.ref (s.heap.objs.size + 1) :: us) := .cons rfl r
  have hl : (Value.ref (s.heap.objs.size + 1) :: us).length = ps.length := by
    have e := r2.length
    rw [F.len _ _ _ _ hq] at e
    exact e.symm
  have b := hb s (Value.ref (s.heap.objs.size + 1) :: us) I.kIn (by rw [List.append_nil]; exact hl)
  have b2 := hb _ (Value.ref (s.heap.objs.size + 1) :: us) I2.kIn (by rw [List.append_nil]; exact hl)
  rw [List.append_nil] at b2
  refine wpAny_call (make_map (f := f) I.kIn M.makes M.init (beq_iff_eq.mp M.fn) (codeAny_mono (F.run _ X.stack _ _ ⟨Value.ref (s.heap.objs.size + 1) :: us, []⟩ (Value.ref (s.heap.objs.size + 1) :: us) _ _ (E σ) (hr.make C us [])
    (I2.env0.make C us []) b2 r2 hq) fun r s' hq' => ?_))
  cases r with
  | error e => exact hx pins _ _ e s' I2 hq'
  | ok fl =>
    cases fl with
    | ret u =>
      obtain ⟨v, H', I3, rv, ev, q3⟩ := I2.after hq'
      subst ev
      exact ⟨rv, ⟨V.ref (s.heap.objs.size + 1), H', I3, rfl, q3⟩⟩
    | next => exact False.elim hq'
    | brk => exact False.elim hq'
    | cont => exact False.elim hq'
theorem pe_makeT (M : Mk X.K C f) (F : FnOk X.prog X.w X.K X.mg X.base CX k f fd ps sp) (hr : Room (k + 1) X.A) (hg : Gl X x) (hm : X.mg x = some (.ref C)) (hb : Binds X.K fd ps []) (hx : ∀ σ, PassesAt CX X σ (E σ))
    (ha : PA X (e :: es) t) (hdb : (x == ("__debug__" : Str)) = false := by decide) (he : starEach (e :: es) X.env = (false, eval e X.env) :: starEach es X.env := by rfl) (hpl : (backTo pos (starEach es X.env)).any (·.1) = false := by rfl) :
    PE X (.Call (.Name x p) (e :: es) [] pos) (tMakeT C sp E t) := by
  refine ⟨fun pins s σ H Q I h => ?_⟩
  refine wpAny_Call_Name_kw (ld_glob I hg hm ?_ hdb)
  refine PySem.W.callWith_K (h₀ := X.base) I.ok.mod.kin M.kp (thn (ha.run pos pins s σ H _ I h) fun us s1 ⟨vs, H1, I1, r, q⟩ => ⟨I1.kIn, ?_⟩) he hpl
  exact run_makeT M F hr hb (hx σ) I1 r q
/-- nothing is raised here -/
theorem takes_no : Takes X (fun _ _ _ _ => False) := fun _ _ ⟨_, _, _, _, _, _, _, _, _, _, _, _, _, _, _, _, w⟩ => w.elim
end
/-- isinstance(e, c), e the caught exception, whatever its class -/
def rIsZ (K : PySem.W.Frag) (cls : Value) (d : Option Addr) (a : Addr) : List V → Hp → VK → Prop := fun xs H Q => ∃ (D dd : Addr) (c : V) (cv : Value) (b : Bool) (fs : List (Str × V)), cls = .ref D ∧ d = some dd ∧ ExcC K D ∧ xs = [.ref a, c] ∧ (∀ u, RelV c u → u = cv) ∧ PySem.W.kitOne K (.ref D) cv = some b ∧ H dd = some (.xd fs) ∧ Q (.bl b) H
theorem call_isZ {X : Cx} {a : Addr} {cls : Value} {d : Option Addr} {oe : Obj} {pn : List (Addr × Obj)} (hz : Zc cls d oe) (hf : ∃ vs, oe.data = .fields vs) : CallR (X.suite a ((a, oe) :: pn)) (.builtin "isinstance") (rIsZ X.K cls d a) := by
  intro pins s σ H xs us Q I r h
  obtain ⟨D, dd, c, cv, b, fs, rfl, rfl, hC, h⟩ := h
  exact call_isX hC hz hf pins s σ H xs us Q I r ⟨c, cv, b, fs, h⟩
/-- e.f, e the caught exception, whatever its class -/
def tXz (K : PySem.W.Frag) (a : Addr) (cls : Value) (d : Option Addr) (f : Str) (te : TE) : TE := fun σ H Q => te σ H fun x H1 => x = .ref a ∧ ∃ (C dd : Addr) (fs : List (Str × V)) (v : V), cls = .ref C ∧ XfC K C ∧ PySem.W.findIn K (.ref C) f = some none ∧ d = some dd ∧ H1 dd = some (.xd fs) ∧ fs.lookup f = some v ∧ Q v H1
theorem pe_xz {X : Cx} {a : Addr} {oe : Obj} {cls : Value} {d : Option Addr} {pn : List (Addr × Obj)} {e : Expr} {te : TE} {pos : Pos} {n : Str}
    (hz : Zc cls d oe) (hf : ∃ vs, oe.data = .fields vs) (he : PE (X.suite a ((a, oe) :: pn)) e te) (hb : attributeBase e n X.env (eval e X.env) = eval e X.env := by rfl) :
    PE (X.suite a ((a, oe) :: pn)) (.Attribute e n pos) (tXz X.K a cls d n te) := by
  refine ⟨fun pins s σ H Q I h => ?_⟩
  refine attr_of hb (thn (he.run pins s σ H _ I h) fun u s1 hh => ?_)
  obtain ⟨x, H1, I1, rx, ex, C, dd, fs, v, ec, T, hno, ed, ea, l, q⟩ := hh
  subst ex
  obtain rfl : u = Value.ref a := rx
  subst ec
  subst ed
  obtain ⟨ha, _⟩ := I1.pin (a, oe) (List.mem_append_left _ List.mem_cons_self)
  obtain ⟨vs, hd⟩ := hf
  have hx : ObjOk X.prog X.w H1 s1.heap dd (.xd fs) := I1.hok dd _ ea
  obtain ⟨mA, hns, hr⟩ := hx
  obtain ⟨od, ho, hl⟩ := lookIn_ns hns
  obtain ⟨u, hu, ru⟩ := RelO.some_of (v := v) (o := mA n) (by rw [← l]; exact hr n)
  have J : PySem.W.InstAt s1.heap a oe C (some od) := ⟨ha, hz.1, by unfold PySem.W.notCls; rw [hd] <;> rfl, by rw [hz.2]; exact ho⟩
  exact HandSPX.exc_get I1.kIn J T.ga T.gg T.exC (PySem.W.findObj_own T.hdC hno rfl (by rw [hl, hu])) (handed_of ru) ⟨v, H1, I1.tok _, ru, q⟩
end L2
namespace Sim
open PySem PySem.Spec PyProof.Rows L2 Evl
/-! tables: what the top's end says of the exception classes cs -/
theorem excCB_ok {K : PySem.W.Frag} {D : Addr} (h : excCB K D = true) : ExcC K D := by
  obtain ⟨h1, h⟩ := He.ba h
  obtain ⟨h2, h⟩ := He.ba h
  obtain ⟨h3, h⟩ := He.ba h
  obtain ⟨h4, h⟩ := He.ba h
  obtain ⟨h5, h⟩ := He.ba h
  obtain ⟨h6, h⟩ := He.ba h
  obtain ⟨h7, h8⟩ := He.ba h
  exact ⟨of_decide_eq_true h1, of_decide_eq_true h2, of_decide_eq_true h3, h4, of_decide_eq_true h5, of_decide_eq_true h6, of_decide_eq_true h7, of_decide_eq_true h8⟩
section
variable {K : PySem.W.Frag} {cs fs : List Str} {C D f : Str} {b : Bool}
theorem xs_ok (h : xsB cs K = true) (hC : cs.contains C = true) : ExcC K (He.ga K C) ∧ XfC K (He.ga K C) := by
  have := List.all_eq_true.mp h C (List.contains_iff_mem.mp hC)
  obtain ⟨h1, h2⟩ := He.ba this
  exact ⟨excCB_ok h1, xfB_ok h2⟩
theorem xn_ok (h : xnB cs fs K = true) (hC : cs.contains C = true) (hf : fs.contains f = true) : PySem.W.findIn K (.ref (He.ga K C)) f = some none :=
  noB_ok (List.all_eq_true.mp (List.all_eq_true.mp h C (List.contains_iff_mem.mp hC)) f (List.contains_iff_mem.mp hf))
theorem xa_ok (h : xaB cs D b K = true) (hC : cs.contains C = true) : PySem.W.exmOne K (.ref (He.ga K C)) (.ref (He.ga K D)) = some b := exmB_ok (List.all_eq_true.mp h C (List.contains_iff_mem.mp hC))
theorem xk_ok {ds : List Str} (h : xkB cs D ds K = true) (hC : cs.contains C = true) : PySem.W.kitOne K (.ref (He.ga K C)) (.ref (He.ga K D)) = some (ds.contains C) := of_decide_eq_true (List.all_eq_true.mp h C (List.contains_iff_mem.mp hC))
theorem xkT_ok {D : String} (h : xkTB cs D b K = true) (hC : cs.contains C = true) : PySem.W.kitOne K (.ref (He.ga K C)) (.type D) = some b := of_decide_eq_true (List.all_eq_true.mp h C (List.contains_iff_mem.mp hC))
end
theorem sumL {α β γ : Type} {f : α → Option γ} {g : β → Option γ} {e : α} {r : γ} (h : Sum.elim f g (Sum.inl e) = some r) : f e = some r := h
theorem sumR {α β γ : Type} {f : α → Option γ} {g : β → Option γ} {e : β} {r : γ} (h : Sum.elim f g (Sum.inr e) = some r) : g e = some r := h
theorem bifO {α : Type} {c : Bool} {a b : Option α} {r : α} (h : (bif c then a else b) = some r) : (c = true ∧ a = some r) ∨ (c = false ∧ b = some r) := by
  cases c with
  | true => exact Or.inl ⟨rfl, h⟩
  | false => exact Or.inr ⟨rfl, h⟩
section
variable {K : PySem.W.Frag} {σ : L2.St} {G H W G0 H0 G2 H2 : Hp} {ls : List Addr} {cs : Cs} {ta tb : TA} {to te tu : TE} {ι α β γ : Type} {A : AR ι} {R : Rep α} {S : Rep β} {T : Rep γ} {D : Ends} {l C : Addr} {ns : List Str} {fl : α → List Pd}
/-- the promise of an __init__ that may raise -/
def PXI (K : PySem.W.Frag) (C : Addr) (A : AR ι) (ns : List Str) (fl : α → List Pd) (f : ι → Option (Xn ⊕ α)) : Sp := fun vs H Q E => ∃ G x ws i r, vs = .ref x :: ws ∧ Wd G H [(x, cI C [] [])] ∧ A.r G ws i ∧ f i = some r ∧
  (∀ e, r = .inl e → ∀ d H2 G2, Fr G H G2 H2 [x] → Ex G2 H2 → Xat K G2 e d → E (.ref (He.ga K e.cls)) (some d) H2) ∧
  (∀ o, r = .inr o → ∀ H2 G2, Fr G H G2 H2 [x] → Wd G2 H2 [(x, cI C ns (fl o))] → Q .non H2)
theorem ex_make {f : ι → Option (Xn ⊕ α)} {ta : TA} {mi : Option ι} {Wx : L2.St → XK} (ha : EA ta σ G W A mi) : EX K (tMakeT C (PXI K C A ns fl f) Wx ta) σ G W (rObj C ns fl) (mi >>= f) (Wx σ) := fun z hz H e e' Q qx q => by
  obtain ⟨i, hi, hz⟩ := bindS hz
  refine ha i hi H e e' _ fun vs H1 G1 u1 r1 => ?_
  intro x dx nx ndx ne
  have w1 : Wd G1 (upd (upd H1 dx (.own x)) x (.ins C dx [])) [(x, cI C [] [])] := new_ins u1.gh nx ndx ne
  have hh : ∀ {G2 H2 : Hp}, Fr G1 (upd (upd H1 dx (.own x)) x (.ins C dx [])) G2 H2 [x] → Ex H1 H2 := fun fr a o h => by
    have na : a ≠ x := ne_of_none h nx
    have nd : a ≠ dx := ne_of_none h ndx
    exact fr.fr a o (by rw [upd_ne na, upd_ne nd]; exact h) fun z => na (List.mem_singleton.mp z)
  have nn : ∀ {G2 H2 : Hp}, Fr G1 (upd (upd H1 dx (.own x)) x (.ins C dx [])) G2 H2 [x] → ∀ a, H1 a ≠ none → G1 a = none → a ≠ x ∧ G2 a = none := fun fr a h1 h2 => by
    have na : a ≠ x := fun z => by subst z; exact h1 nx
    have nd : a ≠ dx := fun z => by subst z; exact h1 ndx
    exact ⟨na, fr.nw a (by rw [upd_ne na, upd_ne nd]; exact h1) h2⟩
  refine ⟨G1, x, vs, i, z, rfl, w1, r1, hz, fun xn hx d H2 G2 fr ee xa => ?_, fun o ho H2 G2 fr w2 => ⟨rfl, ?_⟩⟩
  · exact qx xn hx d H2 G2 (u1.trans ⟨fr.gg, ee, hh fr, fun a h1 h2 => (nn fr a h1 h2).2⟩) xa
  · obtain ⟨G3, k1, k2, k3, dx', fs, k4, k5⟩ := ob_freeze w2
    exact q o ho _ H2 G3 (u1.trans ⟨fr.gg.trans k1, k2, hh fr, fun a h1 h2 => k3 a (nn fr a h1 h2).1 (nn fr a h1 h2).2⟩) ⟨x, dx', fs, rfl, k4, k5⟩
theorem Xat.upE {ls : List Addr} {e : Xn} {d : Addr} (h : Xat K G e d) (x : Ex G G2) : Xat K G2 e d := h.mono x
/-- isinstance(e, c) of the caught exception -/
theorem e_isZ {a d : Addr} {e : Xn} {i : Nat} {c : V} {cv : Value} {b : Bool} (hs : σ[i]? = some (some (.ref a))) (hx : Xat K G e d) (hC : ExcC K (He.ga K e.cls)) (hcv : ∀ u, RelV c u → u = cv) (hk : PySem.W.kitOne K (.ref (He.ga K e.cls)) cv = some b) :
    E (tCB (rIsZ K (.ref (He.ga K e.cls)) (some d) a) (tCons (tVar i) (tCons (tC c) tNil))) σ G W rB (some b) := fun z hz H ee e' Q q => by
  cases hz
  obtain ⟨fs, h1, _⟩ := hx
  exact ⟨.ref a, hs, _, _, c, cv, _, fs, rfl, rfl, hC, rfl, hcv, hk, ee d _ h1, q _ H G (Up.refl ee) rfl⟩
def xI (e : Xn) (f : Str) : Option Int := e.fs.lookup f >>= fun x => match x with | .int y => some y | _ => none
/-- e.f of the caught exception -/
theorem e_xz {a d : Addr} {e : Xn} {f : Str} {i : Nat} (hs : σ[i]? = some (some (.ref a))) (hx : Xat K G e d) (hC : XfC K (He.ga K e.cls)) (hno : PySem.W.findIn K (.ref (He.ga K e.cls)) f = some none) : E (tXz K a (.ref (He.ga K e.cls)) (some d) f (tVar i)) σ G W rI (xI e f) := fun z hz H ee e' Q q => by
  obtain ⟨x, hx1, hz⟩ := bindS hz
  cases x with
  | str _ => cases hz
  | txs _ => cases hz
  | bl _ => cases hz
  | recd _ _ _ => cases hz
  | int y =>
    cases hz
    obtain ⟨fs, h1, h2⟩ := hx
    obtain ⟨v, h3, h4⟩ := h2 f _ hx1
    exact ⟨.ref a, hs, rfl, _, d, fs, v, rfl, hC, hno, rfl, ee d _ h1, h3, q v H G (Up.refl ee) h4⟩
end
end Sim

/-! properties; == of further data; list + list; index; all, any -/
namespace Sim
open PySem PySem.Spec PyProof.Rows L2 Evl
section
variable {K : PySem.W.Frag} {σ : L2.St} {G H W G' W' : Hp} {ta : TA} {te tu : TE} {ι α β γ : Type} {A : AR ι} {R : Rep α} {S : Rep β} {T : Rep γ}
theorem dtS : Dt rS PyData.str 0 := ⟨fun h => by rw [show _ = V.str _ from h]; exact .str _, fun _ => rfl, fun _ => Nat.le_refl _, fun x y => by simp [PyData.eqv]⟩
/-- never equal to None -/
class NoN (d : α → PyData) : Prop where
  ne : ∀ x, PyData.eqv .none (d x) = false ∧ PyData.eqv (d x) .none = false
instance : NoN PyData.int := ⟨fun x => ⟨by simp [PyData.eqv], by simp [PyData.eqv]⟩⟩
instance : NoN PyData.bool := ⟨fun x => ⟨by simp [PyData.eqv], by simp [PyData.eqv]⟩⟩
instance : NoN PyData.str := ⟨fun x => ⟨by simp [PyData.eqv], by simp [PyData.eqv]⟩⟩
instance {d : α → PyData} : NoN (fun xs : List α => PyData.list (xs.map d)) := ⟨fun x => ⟨by simp [PyData.eqv], by simp [PyData.eqv]⟩⟩
instance {d : α → PyData} : NoN (fun xs : List α => PyData.tuple (xs.map d)) := ⟨fun x => ⟨by simp [PyData.eqv], by simp [PyData.eqv]⟩⟩
instance {d : α → PyData} {f : β → PyData} : NoN (fun p : α × β => PyData.tuple [d p.1, f p.2]) := ⟨fun x => ⟨by simp [PyData.eqv], by simp [PyData.eqv]⟩⟩
theorem pr_bls {H : Hp} : ∀ {vs : List V} {xs : List Bool}, Paired (rB.r H) vs xs → vs = xs.map V.bl
  | _, _, .nil => rfl
  | _, _, .cons r t => by rw [show _ = V.bl _ from r, pr_bls t]; rfl
theorem rc_all : RC (rAll K) (aC (rL rB) aN) rB (fun i => some (i.1.all id)) := fun vs i z H G hv hz e Q q => by
  cases hz
  obtain ⟨v, ws, rfl, ⟨a, us, rfl, h2, h3⟩, rfl⟩ := hv
  have := pr_bls h3
  subst this
  exact ⟨a, i.1, rfl, Or.inl (Or.inl (e a _ h2)), q _ H G (Up.refl e) rfl⟩
theorem rc_any : RC (rAny K) (aC (rL rB) aN) rB (fun i => some (i.1.any id)) := fun vs i z H G hv hz e Q q => by
  cases hz
  obtain ⟨v, ws, rfl, ⟨a, us, rfl, h2, h3⟩, rfl⟩ := hv
  have := pr_bls h3
  subst this
  exact ⟨a, i.1, rfl, Or.inl (Or.inl (e a _ h2)), q _ H G (Up.refl e) rfl⟩
end
end Sim

/-! operators of own classes: ==, len, in, binary and unary ones -/
namespace L2
open PySem PySem.Spec PyProof.Rows
section
variable {X : Cx} {CX : CXT} {k : Nat} {f C : Addr} {fd : FuncData} {ps : List Str} {sp : Sp} {pins : List (Addr × Obj)} {σ : St} {H : Hp} {s : Shared} {ta tb : TE}
/-- a special method runs -/
theorem run_sp {A : Around} {Q : VK} {us : List Value} {vs : List V} {E : XK} (F : FnOk X.prog X.w X.K X.mg X.base CX k f fd ps sp) (hr : Room k A) (hfr : A.frames = X.A.frames) (hb : Binds X.K fd ps []) (hx : PassesAt CX X σ E)
    (I : Inv X pins σ H s) (r : Vals vs us) (h : sp vs H Q E) : wpAny (model X.prog X.w) A (call (.ref f) us) (EP X pins σ Q) X.xe s := by
  have hl : us.length = ps.length := by rw [← r.length]; exact F.len _ _ _ _ h
  have b := hb s us I.kIn (by rw [List.append_nil]; exact hl)
  rw [List.append_nil] at b
  have e := I.env0
  have e0 : Env0 X.prog X.w X.K X.mg X.base A X.stack s H := ⟨by rw [hfr]; exact e.frames, e.mod, e.bs, e.bsz, e.funs, e.frf, e.hok, e.bare⟩
  refine wpAny_call (codeAny_mono (F.run A X.stack s H ⟨us, []⟩ us vs Q E hr e0 b r h) fun r s' hq => ?_)
  cases r with
  | error e => exact hx pins H s e s' I hq
  | ok fl =>
    cases fl with
    | ret u => exact I.after hq
    | next => exact False.elim hq
    | brk => exact False.elim hq
    | cont => exact False.elim hq
theorem passAt0 {E : XK} : PassesAt CX0 X σ E := fun _ _ _ _ _ _ h => h.elim
def rLenO (C : Addr) (sp : Sp) : List V → Hp → VK → Prop := fun xs H Q => ∃ a dx fs, xs = [.ref a] ∧ H a = some (.ins C dx fs) ∧ sp [.ref a] H (fun v H' => ∃ n : Int, v = .int n ∧ 0 ≤ n ∧ n < 2 ^ 63 ∧ Q v H') E0
theorem call_lenO (F : FnOk X.prog X.w X.K X.mg X.base CX0 k f fd ps sp) (hr : Room (k + 1) X.A) (M : Meth X.K C "__len__" f) (hb : Binds X.K fd ps []) : CallR X (.builtin "len") (rLenO C sp) := by
  intro pins s σ H xs us Q I r h
  obtain ⟨a, dx, fs, rfl, ha, q⟩ := h
  cases r with
  | cons rx rr =>
    cases rr
    cases rx
    obtain ⟨mA, J, _⟩ := ins_get I.hok ha
    obtain ⟨od, J, _⟩ := J.look
    obtain ⟨m, hF⟩ := I.fr
    refine PySem.W.len_K hF I.ok.mod.kin J M.at_ M.fn ?_
    refine wpAny_mono (run_sp (us := [.ref a]) (vs := [.ref a]) F hr.in1 rfl hb passAt0 I (.cons rfl .nil) q) (fun v s' hv => ?_) fun _ _ z => z
    obtain ⟨z, H', I', rz, n, rfl, h0, h1, qz⟩ := hv
    obtain ⟨t, rfl⟩ : ∃ t, v = .int n t := rz
    exact ⟨⟨h0, h1⟩, .int n, H', I'.tok _, ⟨_, rfl⟩, qz⟩
end
end L2

/-! operators of own classes: what they read as -/
namespace Sim
open PySem PySem.Spec PyProof.Rows L2 Evl
section
variable {K : PySem.W.Frag} {σ : L2.St} {G H W : Hp} {ta tb te : TE} {tA : TA} {α β γ ι : Type} {R : Rep α} {S : Rep β} {T : Rep γ} {A : AR ι} {C : Addr} {ns : List Str} {fl : α → List Pd}
def lenM (n : Int) : Option Int := bif decide (0 ≤ n ∧ n < 2 ^ 63) then some n else none
theorem rc_lenO {f : α → Option Int} : RC (rLenO C (PF (aC (rObj C ns fl) aN) rI fun i => f i.1)) (aC (rObj C ns fl) aN) rI (fun i => f i.1 >>= lenM) := fun vs i z H G hv hz e Q q => by
  obtain ⟨n, hn, hz⟩ := bindS hz
  unfold lenM at hz
  cases hb : decide (0 ≤ n ∧ n < 2 ^ 63) with
  | false => rw [hb] at hz; cases hz
  | true =>
    rw [hb] at hz
    cases hz
    obtain ⟨b1, b2⟩ := of_decide_eq_true hb
    obtain ⟨v, ws, rfl, ⟨a, dx, fs, rfl, h2, h3⟩, rfl⟩ := hv
    exact ⟨a, dx, fs, rfl, e a _ h2, G, (i.1, ()), _, e, ⟨_, _, rfl, ⟨a, dx, fs, rfl, h2, h3⟩, rfl⟩, hn, fun u H2 G2 up r => ⟨_, r, b1, b2, q u H2 G2 up r⟩⟩
end
end Sim

/-! what is walked, told in general; comprehensions with two clauses -/
namespace Sim
open PySem L2 Evl
section
variable {K : PySem.W.Frag} {σ : L2.St} {G H W G' W' : Hp} {te tl : TE} {tt tt1 : TT} {α β γ δ : Type} {R : Rep α} {S : Rep β} {T : Rep γ} {wi wi1 : TI} {g g1 : TG}
/-- J walks xs, whatever happens above G1 -/
def Goes (J : It) (G1 : Hp) (R : Rep α) (xs : List α) : Prop :=
  ∀ i H, Ex G1 H → (i = xs.length → J.stop i H) ∧ ∀ x, xs[i]? = some x → J.go i H ∧ ∀ v H', J.yld i H v H' → H' = H ∧ R.r G1 v x
def Src (wi : TI) (σ : L2.St) (G W : Hp) (R : Rep α) (m : Option (List α)) : Prop :=
  ∀ xs, m = some xs → ∀ H, Ex G H → Ex W H → ∀ k : It → Hp → Prop, (∀ J H1 G1, Up G H G1 H1 → Goes J G1 R xs → k J H1) → wi σ H k
theorem src_tup {m : Option (List α)} (h : E tl σ G W (rT R) m) : Src (iTup K tl) σ G W R m := fun xs hx H e e' k q =>
  h xs hx H e e' _ fun v H1 G1 u r => by
    obtain ⟨a, us, rfl, h2, h3⟩ := r
    refine ⟨a, rfl, ⟨us, Or.inl (rd_up u.gh h2)⟩, q _ H1 G1 u fun i H' e1 => ⟨fun hi => ?_, fun x hx => ?_⟩⟩
    · subst hi; exact ⟨us, Or.inl (rd_up e1 h2), by rw [h3.length]; exact Nat.le_refl _⟩
    · obtain ⟨v, hv, r⟩ := pr_get h3 hx
      refine ⟨⟨us, v, Or.inl (rd_up e1 h2), hv⟩, fun w H2 y => ?_⟩
      obtain ⟨rfl, y⟩ := y
      have := y us (Or.inl (rd_up e1 h2))
      rw [hv] at this
      cases this
      exact ⟨rfl, r⟩
/-- a target: how the slots stand behind -/
def Tgt (g : TG) (R : Rep α) (P : Hp → α → L2.St → L2.St → Prop) : Prop :=
  ∀ v x σ G H (Q : L2.St → Hp → Prop), Ex G H → R.r G v x → (∀ σ2, P G x σ σ2 → Q σ2 H) → g v σ H Q
def pN (R : Rep α) (j : Nat) : Hp → α → L2.St → L2.St → Prop := fun G x σ σ2 => ∃ v, R.r G v x ∧ σ2 = σ.set j (some v)
theorem tg_name {j : Nat} : Tgt (gName j) R (pN R j) := fun v x σ G H Q _ r k => k _ ⟨v, r, rfl⟩
/-! ### [e2 for x in xs if f1 for y in g2 x if p2] -/
section
variable {G0 H0 : Hp} {D : Addr} {acc : List V} {ys zs : List γ}
theorem Acc.add {v : V} {y : γ} (A : Acc G0 H0 T D G H acc ys) (r : T.r G v y) : Acc G0 H0 T D G (upd H D (.lst (acc ++ [v]))) (acc ++ [v]) (ys ++ [y]) := by
  refine ⟨A.n, ⟨A.u.gg, fun a o h => ?_, Ex.mut A.u.hh A.n, A.u.nw⟩, A.gd, upd_same, pr_app A.pr (.cons r .nil)⟩
  rw [upd_ne (fun z => by subst z; rw [A.gd] at h; cases h)]
  exact A.u.gh a o h
theorem Acc.start (e : Ex G0 H0) (hD : H0 D = none) : Acc G0 H0 T D G0 (upd H0 D (.lst [])) [] [] := ⟨hD, Up.same e (Ex.new hD), fresh_back e hD, upd_same, .nil⟩
theorem Acc.fin (A : Acc G0 H0 T D G H acc ys) : ∃ G, H0 D = none ∧ Up G0 H0 G H ∧ Wd G H [(D, cL T ys)] := by
  refine ⟨G, A.n, A.u, A.u.gh, fun c hc => ?_, List.nodup_cons.mpr ⟨List.not_mem_nil, List.nodup_nil⟩⟩
  cases List.mem_singleton.mp hc
  exact ⟨A.gd, _, A.hd, acc, rfl, A.pr⟩
end
/-! ### is True, is False; and where the first operand is known -/
end
section
variable {K : PySem.W.Frag} {σ : L2.St} {G H W : Hp} {te ta : TE} {α : Type}
end
end Sim

/-! static methods, class constants read off the class -/
namespace L2
open PySem PySem.Spec PyProof.Rows
section
variable {X : Cx} {CX : CXT} {k : Nat} {f C p : Addr} {fd : FuncData} {ps : List Str} {sp : Sp} {E : St → XK} {x m : Str} {pos apos : Pos} {e o : Expr} {es : List Expr} {ta : TE} {t : TA}
end
end L2
namespace Sim
open PySem PySem.Spec PyProof.Rows L2 Evl
section
variable {K : PySem.W.Frag} {σ : L2.St} {G H W : Hp} {ta : TA} {ι γ : Type} {A : AR ι} {T : Rep γ} {C : Addr}
end
end Sim

/-! data of mixed kinds; a pair unpacked; one-clause comprehensions over anything -/
namespace Sim
open PySem L2 Evl
/-- any data without dicts -/
def rD (K : PySem.W.Frag) : Rep PyData := ⟨fun H v d => Dp K H v d ∧ d.plain = true ∧ d.depth ≤ 20, fun e ⟨h, r⟩ => ⟨Dp.up e h, r⟩⟩
section
variable {K : PySem.W.Frag} {σ : L2.St} {G H W G0 H0 : Hp} {ls : List Addr} {cs : Cs} {te : TE} {α β γ : Type} {R : Rep α} {S : Rep β} {T : Rep γ} {D : Ends} {tz : TS}
theorem e_toD {d : α → PyData} {n : Nat} {m : Option α} (h : E te σ G W R m) (hd : Dt R d n) (hn : n ≤ 20) : E te σ G W (rD K) (m >>= fun x => some (d x)) := fun z hz H e e' Q q => by
  obtain ⟨x, hx, hz⟩ := bindS hz
  cases hz
  exact h x hx H e e' Q fun v H2 G2 u r => q v H2 G2 u ⟨hd.dp r, hd.lay x, Nat.le_trans (hd.dep x) hn⟩
theorem e_nonD : E (tC .non) σ G W (rD K) (some .none) := fun z hz H e e' Q q => by
  cases hz
  exact q _ H G (Up.refl e) ⟨.non, rfl, Nat.zero_le _⟩
def toDM (d : PyData) : Option PyData := bif decide (d.depth ≤ 20) then some d else none
theorem pr_dpD {H : Hp} : ∀ {vs : List V} {xs : List PyData}, Paired ((rD K).r H) vs xs → DpAll K H vs xs ∧ PyData.plainAll xs = true
  | _, _, .nil => ⟨.nil, rfl⟩
  | _, _, .cons r t => by
    obtain ⟨h1, h2⟩ := pr_dpD t
    exact ⟨.cons r.1 h1, Bool.and_eq_true_iff.mpr ⟨r.2.1, h2⟩⟩
theorem e_toDT {m : Option (List PyData)} (h : E te σ G W (rT (rD K)) m) : E te σ G W (rD K) (m >>= fun xs => toDM (.tuple xs)) := fun z hz H e e' Q q => by
  obtain ⟨xs, hx, hz⟩ := bindS hz
  unfold toDM at hz
  cases hb : decide ((PyData.tuple xs).depth ≤ 20) with
  | false => rw [hb] at hz; cases hz
  | true =>
    rw [hb] at hz
    cases hz
    refine h xs hx H e e' Q fun v H2 G2 u r => ?_
    obtain ⟨a, vs, rfl, h2, h3⟩ := r
    obtain ⟨k1, k2⟩ := pr_dpD h3
    exact q _ H2 G2 u ⟨.tup (Or.inl h2) k1, k2, of_decide_eq_true hb⟩
theorem rr_eqDD : RR (rEqP K) (rD K) (rD K) rB (fun x y => some (PyData.eqv x y)) := fun v w x y z H G hv hw hz e Q q => by
  cases hz
  obtain ⟨h1, h2, h3⟩ := (rD K).mono e hv
  obtain ⟨k1, k2, k3⟩ := (rD K).mono e hw
  exact ⟨x, y, h1, k1, ⟨h2, by omega⟩, ⟨k2, by omega⟩, q _ H G (Up.refl e) rfl⟩
theorem rr_neDD : RR (rNeP K) (rD K) (rD K) rB (fun x y => some (!PyData.eqv x y)) := fun v w x y z H G hv hw hz e Q q => by
  cases hz
  obtain ⟨h1, h2, h3⟩ := (rD K).mono e hv
  obtain ⟨k1, k2, k3⟩ := (rD K).mono e hw
  exact ⟨x, y, h1, k1, ⟨h2, by omega⟩, ⟨k2, by omega⟩, q _ H G (Up.refl e) rfl⟩
def noneD : PyData → Bool
  | .none => true
  | _ => false
theorem noneD_ok {v : V} {d : PyData} (h : Dp K H v d) : decide (v = .non) = noneD d := by
  cases h <;> first | rfl | simp [noneD]
theorem rr_isND : RR (fun x y H Q => y = .non ∧ Q (.bl (decide (x = .non))) H) (rD K) rU rB (fun d _ => some (noneD d)) := fun v w o y z H G hv hw hz e Q q => by
  cases hz
  exact ⟨hw, q _ H G (Up.refl e) (congrArg V.bl (noneD_ok hv.1))⟩
theorem o_unpk {i j : Nat} {v : V} {p : α × β} {Q : L2.St → Hp → Prop} (r : (rP R S).r G v p) (e : Ex G H) (k : ∀ x y, R.r G x p.1 → S.r G y p.2 → Q ((σ.set i (some x)).set j (some y)) H) : gTup K 2 (gCons (gName i) (gCons (gName j) gNil)) v σ H Q := g_pair r e k
theorem x_asgO {g : TG} (h : te σ H fun v H1 => g v σ H1 (tz D)) : tSeq (tAsg te g) tz D σ H := h
end
section
variable {K : PySem.W.Frag} {σ : L2.St} {G H W : Hp} {te : TE} {tt : TT} {α γ : Type} {R : Rep α} {T : Rep γ} {wi : TI} {g : TG}
/-- [e2 for x in xs if f1] -/
theorem el_lc1 {vs : List Nat} {m : Option (List α)} {f1 : α → Option Bool} {e2 : α → Option γ} {P : Hp → α → L2.St → L2.St → Prop}
    (h : Src wi σ G W R m) (hg : Tgt g R P) (hw : ∀ x G' σ2, P G' x (wipe σ vs) σ2 → wipe σ2 vs = wipe σ vs)
    (ht : ∀ x σ2 G' W', Ex G G' → Ex W W' → Ex G' W' → P G' x (wipe σ vs) σ2 → ET tt σ2 W' (f1 x))
    (he : ∀ x σ2 G' W', Ex G G' → Ex W W' → Ex G' W' → P G' x (wipe σ vs) σ2 → E te σ2 G' W' T (e2 x)) :
    EL (tLc wi g tt te vs) σ G W T (m >>= fun xs => lcS f1 e2 xs) := fun zs hz H e e' Q q => by
  obtain ⟨xs, hx, hz⟩ := bindS hz
  obtain ⟨hs, hz⟩ := lcS_ok hz
  refine h xs hx H e e' _ fun J H1 G1 u gs D hD => ?_
  have e1 : Ex W H1 := e'.trans u.hh
  refine ⟨fun i n H' => n = xs.length - i ∧ i ≤ xs.length ∧ ∃ G' acc ys rest, Acc G1 H1 T D G' H' acc ys ∧ lcM f1 e2 (xs.drop i) = some rest ∧ ys ++ rest = zs ∧ ys.length ≤ i, ⟨_, rfl, Nat.zero_le _, G1, [], [], zs, Acc.start u.gh hD, hz, rfl, Nat.le_refl _⟩, ?_⟩
  rintro i n H' ⟨rfl, hi', G', acc, ys, rest, A, hr, hzs, hyl⟩
  have gx := gs i H' (A.u.gg.trans A.u.gh)
  by_cases hlt : i < xs.length
  · obtain ⟨x, hx⟩ : ∃ x, xs[i]? = some x := ⟨_, List.getElem?_eq_getElem hlt⟩
    obtain ⟨go, yl⟩ := gx.2 x hx
    rw [drop_at hx] at hr
    obtain ⟨b, hb, hr⟩ := bindS hr
    refine .inr ⟨go, fun H' => ∃ G' acc ys rest, Acc G1 H1 T D G' H' acc ys ∧ lcM f1 e2 (xs.drop (i + 1)) = some rest ∧ ys ++ rest = zs ∧ ys.length ≤ i + 1, fun H2 ⟨G2, a2, y2, r2, A2, k1, k2, k3⟩ => ⟨xs.length - (i + 1), by omega, rfl, hlt, G2, a2, y2, r2, A2, k1, k2, k3⟩, fun v H2 y => ?_⟩
    obtain ⟨rfl, r⟩ := yl v H2 y
    refine hg v x _ G' H2 _ A.u.gh (R.mono A.u.gg r) fun σ2 p => ⟨hw x G' σ2 p, ?_⟩
    refine ht x σ2 G' H2 (u.gg.trans A.u.gg) (e1.trans A.u.hh) A.u.gh p b hb H2 (Ex.refl _) _ fun H3 e3 => ?_
    have A := A.sc e3
    cases b with
    | false => exact ⟨G', acc, ys, rest, A, hr, hzs, by omega⟩
    | true =>
      obtain ⟨z, hz', hr⟩ := bindS hr
      obtain ⟨t, ht', hr⟩ := bindS hr
      cases hr
      show te σ2 H3 _
      refine he x σ2 G' H3 (u.gg.trans A.u.gg) (e1.trans A.u.hh) A.u.gh p z hz' H3 A.u.gh (Ex.refl _) _ fun w H8 G8 u8 r8 => ?_
      have A8 := A.up u8
      refine ⟨acc, A8.hd, ?_, G8, _, _, t, A8.add r8, ht', by rw [← hzs]; simp, by simp; omega⟩
      rw [A8.pr.length]
      refine sz_l (n := ys.length) (decide_eq_true ?_)
      have h9 := of_decide_eq_true hs
      omega
  · have ei : i = xs.length := by omega
    subst ei
    rw [List.drop_length] at hr
    cases hr
    rw [List.append_nil] at hzs
    subst hzs
    obtain ⟨G9, k1, k2, k3⟩ := A.fin
    exact .inl ⟨gx.1 rfl, q D H' G9 (fresh_back u.hh k1) (u.trans k2) k3⟩
end
end Sim

/-! dicts -/
namespace Sim
open PySem L2 Evl
section
variable {K : PySem.W.Frag} {σ : L2.St} {G H W : Hp} {κ α β γ : Type} {kf : κ → Key} {R : Rep α}
end
end Sim

set_option maxHeartbeats 2000000
/-! own iterables: __iter__ gives iter(a list of theirs) -/
namespace L2
open PySem PySem.Spec PyProof.Rows ItX
/-- a def whose promise may speak of how many objects there are when it is called -/
structure FnOkS (P : Program) (w : World) (K : PySem.W.Frag) (mg : Str → Option Value) (base : Heap) (k : Nat) (f : Addr) (fd : FuncData) (ps : List Str) (sp : Nat → Sp) : Prop where
  len : ∀ n vs H Q E, sp n vs H Q E → vs.length = ps.length
  run : ∀ (A : Around) (outer : List Env) (s : Shared) (H : Hp) (args : Args) (us : List Value) (vs : List V) (Q : VK) (E : XK), Room k A → Env0 P w K mg base A outer s H → BindsTo s fd args (ps.zip us) → Vals vs us → sp s.heap.objs.size vs H Q E →
    codeAny (model P w) A (.call (.ref f) args) (CR CX0 outer P w H s Q E) s
section
variable {X : Cx} {k j : Nat} {fi C : Addr} {fd : FuncData} {ps : List Str} {pins : List (Addr × Obj)} {σ : St} {H : Hp} {s : Shared} {te : TE} {f : Str}
/-! ### list(o) -/
variable {fl : Addr} {fdl : FuncData} {psl : List Str} {spl : Sp}
end
end L2

namespace Sim
open PySem L2 Evl
section
variable {K : PySem.W.Frag} {σ : L2.St} {G H W : Hp} {te : TE} {α β γ : Type} {R : Rep β} {C : Addr} {ns : List Str} {fl : α → List Pd}
end
end Sim
namespace Sim
open PySem L2
end Sim

set_option maxHeartbeats 2000000
/-! a class with slots -/
namespace L2
open PySem PySem.Spec PyProof.Rows SlX
section
variable {X : Cx} {CX : CXT} {k : Nat} {f C : Addr} {fd : FuncData} {ps : List Str} {sp : Sp} {pins : List (Addr × Obj)} {σ : St} {H : Hp} {s : Shared} {ta tb : TE}
end
end L2
namespace Sim
open PySem PySem.Spec PyProof.Rows L2 Evl SlX
section
variable {K : PySem.W.Frag} {σ : L2.St} {G0 H0 G H G2 H2 W : Hp} {ls : List Addr} {cs : Cs} {l ld C : Addr} {ta : TA} {te to : TE} {α β γ ι : Type} {R : Rep α} {S : Rep β} {T : Rep γ} {A : AR ι} {D : Ends} {tz : TS} {fl : α → Ps}
/-! own == -/
end
/-! facts of the text -/
end Sim

/-! cells of any kind; dicts; texts -/
namespace L2
open PySem PySem.Spec PyProof.Rows
section
variable {X : Cx}
end
end L2
namespace Sim
open PySem L2 Evl
/-! ### texts -/
section
variable {K : PySem.W.Frag} {σ : L2.St} {G0 H0 G H G2 H2 W : Hp} {ls : List Addr} {cs : Cs} {l : Addr} {cp' : CP} {ta : TA} {te td ti tx : TE} {α β γ ι κ : Type} {R : Rep α} {S : Rep β} {T : Rep γ} {A : AR ι} {D : Ends} {tz : TS}
/-! ### cells of any kind -/
variable {cp : β → CP}
/-! ### dicts -/
variable {κ : Type} [DecidableEq κ] {kf : κ → Key}
/-- how a key stands -/
structure KyR (kf : κ → Key) (S : Rep κ) : Prop where
  v : ∀ {H : Hp} {v : V} {k : κ}, S.r H v k → v = kV (kf k)
end
end Sim

/-! displays and making of objects, opened -/
namespace Sim
open PySem L2 Evl
section
variable {K : PySem.W.Frag} {C : Addr} {σ : L2.St} {G0 H0 G H G2 H2 W : Hp} {ls : List Addr} {cs : Cs} {l : Addr} {ta : TA} {sp : Sp} {dvs : List V} {X : XK} {Q : VK} {α β ι : Type} {R : Rep α} {S : Rep β} {A : AR ι}
def tK (vs : List V) : TA := fun _ H Q => Q vs H
theorem o_tup (h : ta σ H fun vs H1 => tTup (tK vs) σ H1 Q) : tTup ta σ H Q := h
theorem c_pairO {v u : V} {x : α} {y : β} (w : Wo G0 H0 ls G H cs) (hx : R.r G v x) (hy : S.r G u y) (k : ∀ v H2 G2, Wo G0 H0 ls G2 H2 cs → Ex G G2 → (rP R S).r G2 v (x, y) → Q v H2) : tTup (tK [v, u]) σ H Q := by
  refine ⟨by show 2 ≤ sizeLine; decide, fun p hp => k _ _ _ (w.up (Up.lay w.ex hp)) (Ex.new (fresh_back w.ex hp)) ⟨p, v, u, rfl, upd_same, R.mono ?_ hx, S.mono ?_ hy⟩⟩
  · exact Ex.new (fresh_back w.ex hp)
  · exact Ex.new (fresh_back w.ex hp)
end
end Sim

/-! slices of lists, f-strings, join -/
namespace Sim
open PySem L2 Evl
section
variable {K : PySem.W.Frag} {σ : L2.St} {G H W : Hp} {te to : TE} {tl th : TO} {α : Type} {R : Rep α}
/-! f-strings -/
/-! join -/
/-! p[0], p[1] with effects; a cell's element -/
variable {G0 H0 : Hp} {ls : List Addr} {cs : Cs} {l : Addr} {β : Type} {S : Rep β}
/-! C(.., cell, ..) of a class with slots, the cell only read -/
variable {κ ι : Type} {B : Rep κ} {C : Addr} {A : AR ι} {fl : α → Ps} {ad : ι → Addr} {ys : List κ} {ta : TA}
/-! comprehensions over a lent list -/
section
variable {γ : Type} {T : Rep γ} {wi : TI} {g : TG} {tt : TT}
end
/-! what is never reached -/
end
end Sim

/-! for .. in zip(tuple, tuple) -/
namespace Sim
open PySem L2 Evl
section
variable {K : PySem.W.Frag} {σ : L2.St} {G0 H0 G H W : Hp} {ls : List Addr} {cs : Cs} {ta : TA} {α β : Type} {R : Rep α} {S : Rep β} {D : Ends} {tu tz : TS} {g : TG}
/-! displays of lists, sums of lists, opened -/
end
end Sim

/-! an object called: x(..), x of an own class with __call__ -/
namespace PySem.W
open PySem PySem.Spec PySem.Calls PyProof.Rows
end PySem.W
namespace L2
open PySem PySem.Spec PyProof.Rows
section
variable {X : Cx} {CX : CXT} {k i : Nat} {f C : Addr} {fd : FuncData} {ps : List Str} {sp : Sp} {E : St → XK} {x : Str} {p pos : Pos} {e : Expr} {es : List Expr} {t : TA}
end
end L2

set_option maxHeartbeats 4000000
/-! own classes: an __init__ whose first statement is super().__init__(..), over an own class's __init__ -/
namespace Sim
open PySem PySem.Spec PyProof.Rows L2 PySem.W PySem.Calls NdefX
section
variable {CX : CXT} {P : Program} {w : World} {K : PySem.W.Frag} {mg : Str → Option Value} {base : Heap} {N ps psg : List Str} {F : NF} {C D f g : Addr} {fd fdg : FuncData} {k : Nat} {sp spg : Sp} {e : Expr} {es : List Expr} {rest : List Stmt} {p0 p1 p2 p3 p4 : Pos} {pl : Sem Bool}
end
end Sim

/-! askers: objects whose field `asks` holds a list that is changed; that list is a cell of the caller -/
namespace Sim
open PySem L2 Evl
section
variable {K : PySem.W.Frag} {C : Addr} {σ : L2.St} {G0 H0 G H G2 H2 W : Hp} {ls : List Addr} {cs : Cs} {l : Addr} {ta : TA} {te : TE} {X : XK} {α β κ ι : Type} {R : Rep α} {S : Rep β} {T : Rep α} {B : Rep κ} {A : AR ι} {D : Ends} {tz : TS} {ns : List Str}
end
end Sim

/-! the hook with an __init__ that calls super().__init__ of an own class -/
namespace Sim
section
open PySem PySem.Spec PyProof.Rows L2 PySem.W PySem.Calls NdefX
end
open PySem PySem.Spec PyProof.Rows L2 Evl
structure SaysZ (fa : List He.Fa) (fn : List He.DefD) (ex : List (PySem.W.Frag → Bool)) (xs : List XcD) (gs : List GeD) (sp : List SpD) (file : Str) (K : PySem.W.Frag) : Prop where
  s : SaysX fa fn ex xs gs file K
  o : (sp.all fun d => d.ok K file) = true
  v : (sp.map fun d => fnYm K d.cls d.m) = sp.map SpD.val
structure TxZ (fa : List He.Fa) (fn : List He.DefD) (es : List (PySem.W.Frag → Bool)) (xs : List XcD) (gs : List GeD) (sp : List SpD) (file : Str) (K : PySem.W.Frag) (mg : Str → Option Value) : Prop extends TxX fa fn es xs gs file K mg where
  so : (sp.all fun d => d.ok K file) = true
  sv : (sp.map fun d => fnYm K d.cls d.m) = sp.map SpD.val
section
variable {fa : List He.Fa} {fn : List He.DefD} {es : List (PySem.W.Frag → Bool)} {xs : List XcD} {gs : List GeD} {sp : List SpD} {file : Str} {K : PySem.W.Frag} {mg : Str → Option Value}
theorem TxZ.mk' {h : Heap} (KX : K.In h) (G : h.Ns mainGlobals mg) (c : SaysZ fa fn es xs gs sp file K) : TxZ fa fn es xs gs sp file K mg := ⟨TxX.mk' KX G c.s, c.o, c.v⟩
end
end Sim

/-! askers: calls that read the lent list and may raise; loops over a lent list that an expression gives -/
namespace Sim
open PySem L2 Evl
section
variable {K : PySem.W.Frag} {C : Addr} {σ : L2.St} {G0 H0 G H G2 H2 W : Hp} {ls : List Addr} {cs : Cs} {l : Addr} {ta : TA} {X : XK} {te to tl : TE} {α β κ ι γ : Type} {R : Rep α} {S : Rep β} {T : Rep γ} {B : Rep κ} {A : AR ι} {D : Ends} {tz tu : TS} {g : TG} {ns : List Str} {fl : α → List Pd}
/-! ### tests, opened -/
end
end Sim

/-! askers handed to defs; parts of mixed data -/
namespace Sim
open PySem L2 Evl
section
variable {K : PySem.W.Frag} {C : Addr} {σ : L2.St} {G0 H0 G H G2 H2 W : Hp} {ls : List Addr} {cs : Cs} {l : Addr} {ta : TA} {X : XK} {te to tl : TE} {α β κ ι γ : Type} {R : Rep α} {S : Rep β} {T : Rep γ} {B : Rep κ} {A : AR ι} {D : Ends} {tz tu : TS}
/-! mixed data -/
def ixD : PyData → Nat → Option PyData
  | .tuple ds, k => ds[k]?
  | _, _ => none
def intD : PyData → Option Int
  | .int i => some i
  | _ => none
theorem pl_get : ∀ {ds : List PyData} {k : Nat} {d : PyData}, PyData.plainAll ds = true → ds[k]? = some d → d.plain = true ∧ d.depth ≤ PyData.depthAll ds
  | [], k, d, _, h => by simp at h
  | x :: xs, 0, d, h, e => by
    have e : x = d := by simpa using e
    subst e
    have h := (Bool.and_eq_true_iff.mp h).1
    refine ⟨h, ?_⟩
    simp only [PyData.depthAll]
    omega
  | x :: xs, k + 1, d, h, e => by
    have e : xs[k]? = some d := by simpa using e
    obtain ⟨h1, h2⟩ := pl_get (Bool.and_eq_true_iff.mp h).2 e
    refine ⟨h1, ?_⟩
    simp only [PyData.depthAll]
    omega
theorem dp_get {H : Hp} {vs : List V} {ds : List PyData} (h : DpAll K H vs ds) : ∀ {k : Nat} {d : PyData}, ds[k]? = some d → ∃ v, vs[k]? = some v ∧ Dp K H v d := by
  induction ds generalizing vs with
  | nil => intro k d e; simp at e
  | cons x ds ih =>
    intro k d e
    cases h with
    | cons h t =>
      cases k with
      | zero =>
        have e : x = d := by simpa using e
        subst e
        exact ⟨_, rfl, h⟩
      | succ k =>
        obtain ⟨w, h1, h2⟩ := ih t (k := k) (by simpa using e)
        exact ⟨w, by simpa using h1, h2⟩
theorem e_ixD (k : Nat) (hk : k < 100) {m : Option PyData} (h : E te σ G W (rD K) m) : E (tOp (rIxT K) te (tC (.int (k : Int)))) σ G W (rD K) (m >>= fun d => ixD d k) := fun z hz H e e' Q q => by
  obtain ⟨d, hd, hz⟩ := bindS hz
  refine h d hd H e e' _ fun v H1 G1 u r => ?_
  obtain ⟨h1, h2, h3⟩ := r
  cases h1 with
  | tup hq ha =>
    rename_i a xs ds
    obtain ⟨w, hw, hw2⟩ := dp_get ha (show ds[k]? = some z from hz)
    obtain ⟨p1, p2⟩ := pl_get (show PyData.plainAll ds = true from h2) (show ds[k]? = some z from hz)
    have hq' : SqT K H1 a xs := ex_t u.gh hq
    refine ⟨a, xs, k, w, rfl, rfl, hq', ?_, q w H1 G1 u ⟨hw2, p1, ?_⟩⟩
    · have hl : k < xs.length := (List.getElem?_eq_some_iff.mp hw).1
      show (ixN xs.length (k : Int)).bind (fun j => xs[j]?) = some w
      rw [show ixN xs.length (k : Int) = some k by
        unfold ixN
        simp; omega]
      exact hw
    · have : (PyData.tuple ds).depth = PyData.depthAll ds + 1 := by simp only [PyData.depth]
      omega
  | _ => cases hz
end
end Sim

/-! a field written again -/
namespace Sim
open PySem L2 Evl
section
variable {K : PySem.W.Frag} {C : Addr} {σ : L2.St} {G0 H0 G H : Hp} {ls : List Addr} {cs : Cs} {l : Addr} {te : TE} {β : Type} {S : Rep β} {D : Ends} {tz : TS} {ns : List Str}
end
end Sim

/-! cells of any kind, lent to a def that only reads them -/
namespace Sim
open PySem L2 Evl
section
variable {σ : L2.St} {G0 H0 G H G1 H1 W : Hp} {ls : List Addr} {cs : Cs} {l : Addr} {cp0 : CP} {te : TE} {α β : Type} {R : Rep α} {S : Rep β} {cp : β → CP}
variable {K : PySem.W.Frag} {C : Addr} {ta : TA} {X : XK} {κ ι δ γ : Type} {A : AR ι} {B : Rep κ} {D : Ends} {tz : TS} {ns : List Str}
/-! dict(d), d a dict -/
end
end Sim

/-! TableAsker: an __init__ with a default; arguments read at the heap itself -/
namespace Sim
open PySem PySem.Spec PyProof.Rows L2 Evl
section
variable {K : PySem.W.Frag} {C : Addr} {σ : L2.St} {G0 H0 G H G2 H2 W : Hp} {ls : List Addr} {cs : Cs} {l : Addr} {ta tb tc : TE} {td : TE} {X : XK} {α β δ κ ι : Type} {R : Rep ι} {S : Rep β} {S2 : Rep δ} {B : Rep κ} {D : Ends} {tz : TS} {ns : List Str}
end
end Sim

/-! a comprehension whose test changes cells -/
namespace Sim
open PySem L2 Evl
section
variable {K : PySem.W.Frag} {σ : L2.St} {G0 H0 G H : Hp} {ls : List Addr} {cs : Cs} {tl te : TE} {tt : TT} {α γ : Type} {R : Rep α} {T : Rep γ} {D : Ends} {tz : TS}
end
end Sim
namespace Sim
open PySem L2 Evl
section
variable {K : PySem.W.Frag} {σ : L2.St} {G0 H0 G H : Hp} {ls : List Addr} {cs : Cs} {l : Addr} {α κ : Type} [DecidableEq κ] {kf : κ → Key} {R : Rep α} {Q : VK}
end
end Sim

/-! functions made by a lambda; their captured cells laid in the heap as known things -/
namespace LamF
open PySem PySem.Spec PyProof.Rows L2 LamX NdefX
/-- cells laid, taken out -/
def layH (cs : List (Addr × Obj)) (H : Hp) : Hp := fun a => match cs.lookup a with
  | some o => some (CelO o)
  | none => H a
section
variable {cs : List (Addr × Obj)} {H H' H0 : Hp} {a : Addr} {o : Obj}
theorem unlay_out (h : cs.lookup a = none) : unlayH cs H a = H a := by unfold unlayH; rw [h]
/-- these cells stand in h, none of them a frame's -/
structure Stand (fs : List Addr) (cs : List (Addr × Obj)) (h : Heap) : Prop where
  at_ : ∀ c o, cs.lookup c = some o → h.get? c = some o
  cel : ∀ c o, cs.lookup c = some o → ∃ v, o.data = .cell v
  nf : ∀ c o, cs.lookup c = some o → c ∉ fs
end
section
variable {P : Program} {w : World} {cs : List (Addr × Obj)} {H H' H0 H1 : Hp} {h h' B : Heap} {fs : List Addr}
end
/-- what may leave a def, told with or without the cells -/
structure CXlay (CXT0 : CXT) (P : Program) (w : World) : Prop where
  un : ∀ {outer : List Env} {H : Hp} {s s' : Shared} {E : XK} {e : Value} {cs : List (Addr × Obj)}, Stand (frs outer) cs s.heap → (∀ c o, cs.lookup c = some o → H c = some (CelO o)) → CXT0 outer H s E e s' → CXT0 outer (unlayH cs H) s (fun c d H' => E c d (layH cs H')) e s'
  ly : ∀ {outer : List Env} {H : Hp} {s s' : Shared} {E : XK} {e : Value} {cs : List (Addr × Obj)}, Stand (frs outer) cs s.heap → (∀ c o, cs.lookup c = some o → H c = none) → CXT0 outer H s (fun c d H' => E c d (layH cs H')) e s' → CXT0 outer (layH cs H) s E e s'
section
variable {P : Program} {w : World} {CX : CXT} {outer : List Env} {H : Hp} {s s' : Shared} {Q : VK} {E : XK} {cs : List (Addr × Obj)}
end
end LamF

/-! lambdas: made, called, handed over -/
namespace LamF
open PySem PySem.Spec PyProof.Rows L2 LamX NdefX
abbrev LF.nf (F : LF) : NF := ⟨"<lambda>", F.qual, F.params, [], F.scope, F.cl, F.c⟩
/-- what the making of a lambda leaves -/
structure Lm (H H1 : Hp) (P f : Addr) (F : LF) (ps0 ps : Array Value) : Prop where
  nf : H f = none
  src : H F.c = none ∨ ∃ pos, codeAmong pos ps0.toList = some (.ref F.c)
  old : ∀ (pos : Pos) (cv : Value), codeAmong pos ps.toList = some cv → codeAmong pos ps0.toList = some cv ∨ cv = .ref F.c
  at_ : H1 f = some (FnL f F)
  co : H1 F.c = some (CodeO F.c F.qual)
  tb : H1 P = some (.tbl ps)
  cd : Cds H1 F.qual ps
  ex : ∀ b o, b ≠ P → H b = some o → H1 b = some o
  nw : ∀ b, H1 b ≠ none → H b = none → b = f ∨ b = F.c
section
variable {X : Cx} {pins : List (Addr × Obj)} {σ : L2.St} {H : Hp} {s : Shared}
end
/-! ### a call with the own cells of these names laid -/
structure LaidBy (X : Cx) (fr : List Str) (σ : L2.St) (H : Hp) (cs : List (Addr × Obj)) : Prop where
  inj : ∀ x y c, X.env.cells.lookup x = some c → X.env.cells.lookup y = some c → x = y
  nn : ∀ c o, cs.lookup c = some o → H c = none
  at_ : ∀ y ∈ fr, ∃ c o u, X.env.cells.lookup y = some c ∧ cs.lookup c = some o ∧ o.data = .cell u ∧ ∀ (i : Nat) (v : V), X.N[i]? = some y → σ[i]? = some (some v) → Vis X.env.scope y → ∃ u', u = some u' ∧ RelV v u'
section
variable {X : Cx} {pins : List (Addr × Obj)} {σ : L2.St} {H : Hp} {s : Shared} {fr : List Str}
theorem look_mem {α β : Type} [BEq α] [LawfulBEq α] : ∀ {l : List (α × β)} {a : α} {b : β}, (a, b) ∈ l → ∃ b', l.lookup a = some b'
  | (x, y) :: l, a, b, h => by
    rw [List.lookup_cons]
    cases e : a == x with
    | true => exact ⟨y, rfl⟩
    | false =>
      rcases List.mem_cons.mp h with z | z
      · cases z
        rw [beq_self_eq_true] at e
        cases e
      · exact look_mem z
end
section
variable {X : Cx} {pins : List (Addr × Obj)} {σ : L2.St} {H : Hp} {s : Shared} {fr : List Str} {cs : List (Addr × Obj)}
end
section
variable {X : Cx} {CX : CXT} {k : Nat} {f : Addr} {fd : FuncData} {ps : List Str} {sp : Sp} {E : L2.St → XK} {x : Str} {p pos : Pos} {e : Expr} {es : List Expr} {t : TA} {fr : List Str}
end
end LamF

/-! functions made by a lambda: called; handed back by a def -/
namespace LamF
open PySem PySem.Spec PyProof.Rows L2 LamX NdefX
section
variable {H : Hp} {f : Addr} {F : LF} {fr : List Str} {us : List V}
theorem Clos.look (C : Clos H f F fr us) {i : Nat} {y : Str} {c : Addr} {o : Obj} (hi : fr[i]? = some y) (h1 : F.cl.lookup y = some c) (h2 : H c = some (CelO o)) : (celsH F fr H).lookup c = some o := by
  have : (c, o) ∈ celsH F fr H := List.mem_filterMap.mpr ⟨y, List.mem_of_getElem? hi, by
    rw [h1]
    simp only [Option.bind_eq_bind, Option.bind_some]
    rw [h2]
    rfl⟩
  obtain ⟨o', e⟩ := look_mem this
  have := (C.mem e).1
  rw [h2] at this
  cases this
  exact e
end
section
variable {CX : CXT} {P : Program} {w : World} {K : PySem.W.Frag} {mg : Str → Option Value} {base : Heap} {N ps fr psg : List Str} {F : LF} {f g : Addr} {fdg : FuncData} {k : Nat} {spg : Sp} {x : Str} {e : Expr} {es : List Expr} {p0 pos : Pos} {js : List Nat} {us : List V}
end
/-! ### x(..), x a local name that holds something that can be called -/
section
variable {X : Cx} {CX : CXT} {k i : Nat} {E : L2.St → XK} {x : Str} {p pos : Pos} {e : Expr} {es : List Expr} {t : TA}
end
end LamF

/-! a def that hands back a lambda; defs whose code object is told -/
namespace LamF
open PySem PySem.Spec PyProof.Rows L2 LamX NdefX
section
variable {P : Program} {w : World} {K : PySem.W.Frag} {mg : Str → Option Value} {base : Heap} {x qual : Str} {params : Arguments} {body : List Stmt} {scope : Scope} {f : Addr} {fd : FuncData} {CX : CXT} {N ps : List Str} {k : Nat} {sp : Sp}
/-- what such a def promises: the function made, its captured names' values -/
structure LmC (H H1 : Hp) (P fl : Addr) (F : LF) (ps0 ps : Array Value) : Prop where
  nf : H fl = none
  src : H F.c = none ∨ ∃ pos, codeAmong pos ps0.toList = some (.ref F.c)
  old : ∀ (pos : Pos) (cv : Value), codeAmong pos ps.toList = some cv → codeAmong pos ps0.toList = some cv ∨ cv = .ref F.c
  tb : H1 P = some (.tbl ps)
  cd : Cds H1 F.qual ps
  ex : ∀ b o, b ≠ P → H b = some o → H1 b = some o
  ceN : ∀ y c, F.cl.lookup y = some c → H c = none
end
end LamF

/-! things that are asked: functions and objects called with a name; what they change is a state -/
namespace Sim
open PySem PySem.Spec PyProof.Rows L2 Evl LamX LamF NdefX
/-! ### asked -/
section
variable (P : Program) (w : World) (K : PySem.W.Frag) (mg : Str → Option Value) (base : Heap) (k : Nat)
end
section
variable {P : Program} {w : World} {K : PySem.W.Frag} {mg : Str → Option Value} {base : Heap} {k kk : Nat} {κ : Type} {ci : κ → Cs}
variable {G0 H0 G H G2 H2 : Hp} {ls : List Addr} {cs : Cs} {f : Addr} {X : Cx} {σ : L2.St} {i : Nat} {CX : CXT}
theorem Wo.tailD {a : Cs} (w : Wo G0 H0 ls G H (cs ++ a)) : Wd G H a := w.w.app.2
end
/-! ### defs that ask -/
section
variable (P : Program) (w : World) (K : PySem.W.Frag) (mg : Str → Option Value) (base : Heap) (k : Nat)
end
/-! ### a function made by a lambda and handed over at once -/
/-- what stands below a heap without the laid cells -/
class Dn {α : Type} (R : Rep α) : Prop where
  dn : ∀ {G : Hp} {cs : List (Addr × Obj)} {v : V} {x : α}, (∀ c o, cs.lookup c = some o → G c = some (CelO o)) → R.r G v x → R.r (unlayH cs G) v x
theorem dn_at {G : Hp} {cs : List (Addr × Obj)} {a : Addr} {o : HO} (hl : ∀ c o, cs.lookup c = some o → G c = some (CelO o)) (n : ∀ o', o ≠ CelO o') (h : G a = some o) : unlayH cs G a = some o := by
  cases q : cs.lookup a with
  | none => rw [unlay_out q]; exact h
  | some o' => rw [hl a o' q] at h; exact absurd (Option.some.inj h).symm (n o')
instance : Dn rI := ⟨fun _ h => h⟩
instance : Dn rS := ⟨fun _ h => h⟩
instance : Dn rB := ⟨fun _ h => h⟩
instance : Dn rU := ⟨fun _ h => h⟩
instance : Dn rA := ⟨fun _ h => h⟩
instance {α β : Type} {R : Rep α} {S : Rep β} [Dn R] [Dn S] : Dn (rP R S) := ⟨fun hl ⟨a, x, y, h1, h2, h3, h4⟩ => ⟨a, x, y, h1, dn_at hl (fun _ z => by cases z) h2, Dn.dn hl h3, Dn.dn hl h4⟩⟩
instance {α : Type} {R : Rep α} [Dn R] : Dn (rL R) := ⟨fun hl ⟨a, vs, h1, h2, h3⟩ => ⟨a, vs, h1, dn_at hl (fun _ z => by cases z) h2, Paired.mapP h3 fun _ _ => Dn.dn hl⟩⟩
instance {α : Type} {R : Rep α} [Dn R] : Dn (rT R) := ⟨fun hl ⟨a, vs, h1, h2, h3⟩ => ⟨a, vs, h1, h2.elim (fun h2 => .inl (dn_at hl (fun _ z => by cases z) h2)) fun ⟨o, h2⟩ => .inr ⟨o, dn_at hl (fun _ z => by cases z) h2⟩, Paired.mapP h3 fun _ _ => Dn.dn hl⟩⟩
section
variable {G0 H0 G H G2 H2 : Hp} {ls : List Addr} {cs : Cs} {cels : List (Addr × Obj)}
end
section
variable {G0 H0 G H H1 : Hp} {ls : List Addr} {cs : Cs} {Pt fl : Addr} {F : LF} {ps0 ps : Array Value} {j : Nat} {q : Str}
end
end Sim

/-! x = f(.., lambda ..): the function asks a list of the def's own -/
namespace Sim
open PySem PySem.Spec PyProof.Rows L2 Evl LamX LamF NdefX
section
variable {X : Cx} {kk : Nat} {σ : L2.St} {G0 H0 G H : Hp} {ls : List Addr} {cs : Cs} {ta : TA} {ι α γ : Type} {A : AR ι} {R : Rep γ} {Ra : Rep α} {D : Ends} {tz : TS}
end
end Sim

/-! calls that change cells at any places; the tail of the cells; lambdas handed over, printed by gen.py -/
namespace Sim
open PySem PySem.Spec PyProof.Rows L2 Evl LamX LamF NdefX
/-- the cells at these places -/
def SelJ (cs : Cs) : List Nat → Cs → Prop
  | [], [] => True
  | j :: js, c :: a => cs[j]? = some c ∧ SelJ cs js a
  | _, _ => False
def putJ (cs : Cs) : List Nat → Cs → Cs
  | j :: js, c :: a => (putJ cs js a).set j c
  | _, _ => cs
theorem selJ_mem {cs : Cs} : ∀ {js : List Nat} {a : Cs}, SelJ cs js a → ∀ c ∈ a, ∃ j ∈ js, cs[j]? = some c
  | [], [], _, c, h => nomatch h
  | j :: js, d :: a, ⟨h1, h2⟩, c, h => by
    rcases List.mem_cons.mp h with rfl | h
    · exact ⟨j, List.mem_cons_self .., h1⟩
    · obtain ⟨i, hi, e⟩ := selJ_mem h2 c h
      exact ⟨i, List.mem_cons_of_mem _ hi, e⟩
theorem selJ_nd {cs : Cs} (nd : (cs.map (·.1)).Nodup) : ∀ {js : List Nat} {a : Cs}, js.Nodup → SelJ cs js a → (a.map (·.1)).Nodup
  | [], [], _, _ => List.nodup_nil
  | j :: js, c :: a, hn, ⟨h1, h2⟩ => by
    refine List.nodup_cons.mpr ⟨fun z => ?_, selJ_nd nd (List.nodup_cons.mp hn).2 h2⟩
    obtain ⟨d, hd, e⟩ := List.mem_map.mp z
    obtain ⟨i, hi, e2⟩ := selJ_mem h2 d hd
    have a1 : (cs.map (·.1))[j]? = some c.1 := by rw [List.getElem?_map, h1]; rfl
    have a2 : (cs.map (·.1))[i]? = some c.1 := by rw [List.getElem?_map, e2]; exact congrArg some e
    have := nodup_ix nd a1 a2
    subst this
    exact (List.nodup_cons.mp hn).1 hi
theorem selJ_wd {G H : Hp} {cs a : Cs} {js : List Nat} (w : Wd G H cs) (hn : js.Nodup) (h : SelJ cs js a) : Wd G H a :=
  ⟨w.ex, fun c hc => let ⟨_, _, e⟩ := selJ_mem h c hc; w.at_ c (List.mem_of_getElem? e), selJ_nd w.nd hn h⟩
theorem putJ_map {cs : Cs} : ∀ {js : List Nat} {a a' : Cs}, SelJ cs js a → a'.map (·.1) = a.map (·.1) → (putJ cs js a').map (·.1) = cs.map (·.1)
  | [], [], [], _, _ => rfl
  | j :: js, c :: a, d :: a', ⟨h1, h2⟩, e => by
    obtain ⟨e1, e2⟩ := List.cons.inj e
    have ih := putJ_map h2 e2
    show ((putJ cs js a').set j d).map (·.1) = _
    rw [List.map_set, ih]
    refine List.ext_getElem? fun n => ?_
    rw [List.getElem?_set]
    split
    · rename_i h
      subst h
      have a1 : (cs.map (·.1))[j]? = some c.1 := by rw [List.getElem?_map, h1]; rfl
      rw [a1]
      have : j < (cs.map (·.1)).length := (List.getElem?_eq_some_iff.mp a1).1
      rw [if_pos this]
      exact congrArg some e1
    · rfl
  | [], [], _ :: _, _, e => by cases e
  | _ :: _, _ :: _, [], _, e => by cases e
theorem putJ_at {cs : Cs} : ∀ {js : List Nat} {a' : Cs} {n : Nat} {c : Addr × CP}, js.length = a'.length → (putJ cs js a')[n]? = some c → c ∈ a' ∨ (n ∉ js ∧ cs[n]? = some c)
  | [], [], n, c, _, h => .inr ⟨by simp, h⟩
  | j :: js, d :: a', n, c, e, h => by
    have h : ((putJ cs js a').set j d)[n]? = some c := h
    rw [List.getElem?_set] at h
    split at h
    · rename_i q
      split at h
      · cases h; exact .inl (List.mem_cons_self ..)
      · cases h
    · rename_i q
      rcases putJ_at (by simpa using e) h with z | ⟨z1, z2⟩
      · exact .inl (List.mem_cons_of_mem _ z)
      · exact .inr ⟨fun z => by
          rcases List.mem_cons.mp z with z | z
          · exact q z.symm
          · exact z1 z, z2⟩
  | [], _ :: _, _, _, e, _ => by cases e
  | _ :: _, [], _, _, e, _ => by cases e
theorem selJ_len {cs : Cs} : ∀ {js : List Nat} {a : Cs}, SelJ cs js a → js.length = a.length
  | [], [], _ => rfl
  | _ :: _, _ :: _, ⟨_, h⟩ => congrArg (· + 1) (selJ_len h)
section
variable {σ : L2.St} {G0 H0 G H G2 H2 : Hp} {ls : List Addr} {cs : Cs}
/-! ### the tail -/
variable {P : Program} {w : World} {K : PySem.W.Frag} {mg : Str → Option Value} {base : Heap} {k : Nat} {κ : Type} {ci : κ → Cs} {f : Addr}
end
end Sim

/-! the hook with tables of code objects; the law's end with tables -/
namespace Sim
open PySem PySem.Spec PyProof.Rows L2 Evl LamX LamF NdefX
def TbD.cel (K : PySem.W.Frag) (d : TbD) : Addr × CP := (tabOf K (He.fAd K d.at_), cTab d.q)
structure SaysT (fa : List He.Fa) (fn : List He.DefD) (ex : List (PySem.W.Frag → Bool)) (xs : List XcD) (gs : List GeD) (sp : List SpD) (tf : List TbD) (file : Str) (h : Heap) (K : PySem.W.Frag) : Prop where
  s : SaysZ fa fn ex xs gs sp file K
  hd : ∀ p ∈ tf, PySem.W.codeHdIn K (p.c K).1 (p.c K).2 = true
  out : ∀ p ∈ tf, K.lookup (p.c K).2 = none
  nd : (tf.map fun p => (p.c K).2).Nodup
  empty : ∀ p ∈ tf, h.get? (p.c K).2 = some { cls := .none, data := .fields #[] }
end Sim

/-! a for over a list that is a cell and stays as it is; and in a test that changes cells -/
namespace Sim
open PySem L2 Evl
section
variable {K : PySem.W.Frag} {σ : L2.St} {G0 H0 G H G2 H2 : Hp} {ls : List Addr} {cs : Cs} {l : Addr} {cp cp' : CP} {tu tz : TS} {t u : TT} {g : TG} {D : Ends} {α : Type} {R : Rep α}
end
end Sim

/-! sides: values that are called with what is asked -/
namespace LamF
open PySem PySem.Spec PyProof.Rows L2 LamX NdefX
section
variable {X : Cx} {CX : CXT} {k : Nat} {pins : List (Addr × Obj)} {σ : L2.St} {H : Hp} {s : Shared} {a C dx : Addr} {fs : List (Str × V)} {v : V} {A : Around} {E : Value → Shared → Prop}
end
end LamF
namespace Sim
open PySem PySem.Spec PyProof.Rows L2 Evl LamX LamF NdefX
/-! ### an object with an attribute -/
/-! ### sides -/
section
variable (P : Program) (w : World) (K : PySem.W.Frag) (mg : Str → Option Value) (base : Heap) (j : Nat)
end
section
variable {P : Program} {w : World} {K : PySem.W.Frag} {mg : Str → Option Value} {base : Heap} {j k kk : Nat} {κ ω : Type} {ci : κ → Cs} {G0 H0 G H G2 H2 : Hp} {ls : List Addr} {cs : Cs} {f fk : Addr} {rO : Rep ω} {σ : L2.St}
variable {sem : ∀ {κ : Type}, (κ → Str → Option ((Xn ⊕ Int) × κ)) → ω → κ → Option ((Xn ⊕ Int) × κ)}
end
end Sim

/-! what sides are: objects, lambdas, defs; things that are asked: objects, lambdas -/
namespace Sim
open PySem PySem.Spec PyProof.Rows L2 Evl LamX LamF NdefX
section
variable {P : Program} {w : World} {K : PySem.W.Frag} {mg : Str → Option Value} {base : Heap} {j k kk : Nat} {κ ω : Type} {ci : κ → Cs} {G0 H0 G H G2 H2 : Hp} {ls : List Addr} {cs : Cs} {f fk a C f0 : Addr} {rO : Rep ω} {σ : L2.St} {fd : FuncData} {ps : List Str}
end
section
variable {X : Cx} {kk : Nat} {σ : L2.St} {G0 H0 G H : Hp} {ls : List Addr} {cs : Cs} {ta : TA} {ι α γ : Type} {A : AR ι} {R : Rep γ} {Ra : Rep α} {D : Ends} {tz : TS}
end
end Sim

/-! methods whose arguments change cells; a call that hands on what is asked and may raise -/
namespace Sim
open PySem PySem.Spec PyProof.Rows L2 Evl LamX LamF NdefX
section
variable {P : Program} {w : World} {K : PySem.W.Frag} {mg : Str → Option Value} {base : Heap} {j k kk : Nat} {κ ω α β : Type} {ci : κ → Cs} {G0 H0 G H G2 H2 W : Hp} {ls : List Addr} {cs : Cs} {f fk a C f0 : Addr} {rO : Rep ω} {σ : L2.St} {fd : FuncData} {ps ns : List Str} {to : TE} {ta : TA}
theorem SideOk.congr {sem sem' : ∀ {κ : Type}, (κ → Str → Option ((Xn ⊕ Int) × κ)) → ω → κ → Option ((Xn ⊕ Int) × κ)} (h : SideOk P w K mg base j rO k G f (fun a => sem a)) (e : ∀ {κ : Type} (a : κ → Str → Option ((Xn ⊕ Int) × κ)) (o : ω) (s : κ), sem' a o s = sem a o s) : SideOk P w K mg base j rO k G f (fun a => sem' a) :=
  ⟨h.cb, h.ok.imp fun vs H Q E ⟨κ, ci, ask, G, fk, o, s, r, s', a1, a2, a3, a4, a5, a6, a7⟩ => ⟨κ, ci, ask, G, fk, o, s, r, s', a1, a2, a3, a4, a5, by rw [← a6]; exact (e ask o s).symm, a7⟩⟩
/-- another reading of the same value -/
theorem e_cv {te : TE} {R : Rep α} {S : Rep β} {m : Option α} {c : α → β} (h : E te σ G W R m) (hc : ∀ {G : Hp} {v : V} {x : α}, R.r G v x → S.r G v (c x)) : E te σ G W S (m >>= fun x => some (c x)) := fun z hz H e e' Q q => by
  obtain ⟨x, hx, hz⟩ := bindS hz
  cases hz
  exact h x hx H e e' _ fun v H2 G2 u r => q v H2 G2 u (hc r)
end
end Sim

/-! a | b of two own classes with the same method -/
namespace PySem.W
open PySem PySem.Spec PyProof.Rows PySem.Calls
variable {prog : Program} {w : World} {A : Around} {E : Value → Shared → Prop} {s : Shared} {K : Frag} {x C D L f g : Addr} {h₀ : Heap} {m : Str → Option Value} {ox : Obj} {od : Option Obj}
end PySem.W
namespace L2
open PySem PySem.Spec PyProof.Rows
structure OpOk (K : PySem.W.Frag) (C D : Addr) (nm : String) (f : Addr) : Prop where
  sc : PySem.W.selfFirst K C = true
  at_ : PySem.W.findIn K (.ref C) (PySem.dunder nm) = some (some (.ref f))
  fn : PySem.W.isFn K (.ref f) = true
  two : C = D ∨ (PySem.W.selfFirst K D = true ∧ PySem.W.findIn K (.ref C) (dunderR nm) = some none ∧ (∃ g, PySem.W.findIn K (.ref D) (PySem.dunder nm) = some (some (.ref g))) ∧ PySem.W.findIn K (.ref D) (dunderR nm) = some none ∧ PySem.W.subIn K (.ref D) (.ref C) = some false)
section
variable {X : Cx} {CX : CXT} {k : Nat} {f C : Addr} {fd : FuncData} {ps : List Str} {sp : Sp} {pins : List (Addr × Obj)} {σ : St} {H : Hp} {s : Shared} {ta tb : TE}
end
end L2
namespace Sim
open PySem PySem.Spec PyProof.Rows L2 Evl LamX LamF NdefX
end Sim

/-! reversed; values that are an int or a text -/
namespace Sim
open PySem PySem.Spec PyProof.Rows L2 Evl
section
variable {K : PySem.W.Frag} {σ : L2.St} {G0 H0 G H G2 H2 W : Hp} {ls : List Addr} {cs : Cs} {ta : TA} {te : TE} {α β : Type} {R : Rep α} {D : Ends} {tu tz : TS} {g : TG}
end
end Sim

/-! a def that hands back a lambda: its function, told of the data heap -/
namespace Sim
open PySem PySem.Spec PyProof.Rows L2 Evl LamX LamF NdefX
section
variable {P : Program} {w : World} {K : PySem.W.Frag} {mg : Str → Option Value} {base : Heap} {CX : CXT} {k j : Nat} {f Pt : Addr} {fd : FuncData} {ps fr : List Str} {q : Str} {lp : Arguments} {lb : Expr} {lsc : Scope} {ws : List V → List V} {tb : Cs}
end
end Sim

/-! askers asked where nothing is raised; their cell at any place -/
namespace Sim
open PySem PySem.Spec PyProof.Rows L2 Evl LamX LamF NdefX
section
variable {P : Program} {w : World} {K : PySem.W.Frag} {mg : Str → Option Value} {base : Heap} {k : Nat} {κ : Type} {ci : κ → Cs} {G0 H0 G H G2 H2 Gq Hq : Hp} {ls : List Addr} {cs csq : Cs} {fk : Addr} {σ : L2.St}
end
end Sim

/-! a lambda whose body asks its own parameter -/
namespace LamF
open PySem PySem.Spec PyProof.Rows L2 LamX NdefX
section
variable {CX : CXT} {P : Program} {w : World} {K : PySem.W.Frag} {mg : Str → Option Value} {base : Heap} {N ps fr : List Str} {F : LF} {f : Addr} {k i : Nat} {x : Str} {e : Expr} {es : List Expr} {p pos : Pos} {us : List V}
end
end LamF

/-! what asks in a lambda's body -/
namespace Sim
open PySem PySem.Spec PyProof.Rows L2 Evl LamX LamF NdefX
section
variable {P : Program} {w : World} {K : PySem.W.Frag} {mg : Str → Option Value} {base : Heap} {N ps fr : List Str} {F : LF} {f fk : Addr} {k i jn : Nat} {us : List V} {G G2 H H2 : Hp} {κ : Type} {ci : κ → Cs} {σ : L2.St}
end
end Sim

/-! a def called at the slots, opened; a global name as data -/
namespace Sim
open PySem PySem.Spec PyProof.Rows L2 Evl
section
variable {σ : L2.St} {G W H : Hp} {α : Type} {R : Rep α}
end
section
variable {K : PySem.W.Frag} {C : Addr} {σ : L2.St} {G0 H0 G H : Hp} {ls : List Addr} {cs : Cs} {X : XK} {α β δ κ ι : Type} {R : Rep ι} {S : Rep β} {S2 : Rep δ} {B : Rep κ} {ns : List Str}
end
end Sim

set_option maxHeartbeats 2000000
/-! in: data in a list, own objects in a list; dicts compared; tuples of several parts -/
namespace GQ
open PySem PySem.SeqAt
open AutoSeq1 (wpAny_loadPart')
open MeetsSeq MeetsSeq2 MeetsSeq3 SeqRoads2
section
variable {prog : Program} {w : World} {A : Around} {R : Result → Shared → Prop}
end
section
variable {prog : Program} {w : World} {A : Around} {E : Value → Shared → Prop} {s : Shared}
end
end GQ
namespace L2
open PySem PySem.Spec PyProof.Rows SlX
section
variable {X : Cx} {k : Nat} {f C : Addr} {fd : FuncData} {ps : List Str} {sp : Sp} {pins : List (Addr × Obj)} {σ : St} {H : Hp} {s : Shared}
end
end L2

set_option maxHeartbeats 2000000
/-! the same, told by mirrors -/
namespace L2
open PySem PySem.Spec PyProof.Rows SlX
/-- x in xs, data -/
def rInP (neg : Bool) (K : PySem.W.Frag) : R2 := fun x y H Q => ∃ d ds, Dp K H x d ∧ Dp K H y (.list ds) ∧ (d.plain = true ∧ d.depth ≤ 60) ∧ (PyData.plainAll ds = true ∧ PyData.depthAll ds ≤ 60) ∧ Q (.bl (if neg = true then !ds.any fun e => PyData.eqv e d else ds.any fun e => PyData.eqv e d)) H
theorem op_inP {X : Cx} {neg : Bool} (hu : X.A.units + 64 < cLine) : OpR X (compareOp (if neg = true then .NotIn else .In)) (rInP neg X.K) := by
  intro pins s σ H x y v u Q I rx ry h
  obtain ⟨d, ds, hd, he, sd, se, q⟩ := h
  obtain ⟨as, r1⟩ := Dp.reads I d x v hd rx
  obtain ⟨bs, r2⟩ := Dp.reads I (.list ds) y u he ry
  have h1 := Nat.min_le_right (PyData.depthAll ds) d.depth
  have h2 := sd.2
  cases neg with
  | false => exact SeqAt.in_list_data r2 r1 se.1 sd.1 (by omega) ⟨.bl _, H, I, rfl, q⟩
  | true => exact SeqAt.notIn_list_data r2 r1 se.1 sd.1 (by omega) ⟨.bl _, H, I, rfl, q⟩
end L2

set_option maxHeartbeats 2000000
namespace Sim
open PySem PySem.Spec PyProof.Rows L2 Evl SlX
section
variable {K : PySem.W.Frag} {C : Addr} {σ : L2.St} {G0 H0 G H G2 H2 W Gn Wn : Hp} {ls : List Addr} {cs : Cs} {l : Addr} {ta tb tc tl te ti tk : TE} {tt : TT} {α β δ κ ι γ : Type} {R : Rep α} {S : Rep β} {T : Rep γ} {A : AR ι}
/-! ### what a value stands for is one thing -/
/-! ### x in xs of own objects -/
/-! ### x in xs of data -/
theorem any_dt {d : α → PyData} {n : Nat} (h : Dt R d n) [DecidableEq α] (x : α) : ∀ xs : List α, ((xs.map d).any fun e => PyData.eqv e (d x)) = xs.any fun y => decide (y = x)
  | [] => rfl
  | y :: ys => by
    show (PyData.eqv (d y) (d x) || _) = (decide (y = x) || _)
    rw [eqvD h]
    exact congrArg _ (any_dt h x ys)
theorem rr_inD [DecidableEq α] {d : α → PyData} {n : Nat} {neg : Bool} (h : Dt R d n) (hn : n ≤ 60) : RR (rInP neg K) R (rL R) rB (fun x xs => some (if neg = true then !xs.any fun y => decide (y = x) else xs.any fun y => decide (y = x))) := fun v w x xs z H G hv hw hz e Q q => by
  cases hz
  obtain ⟨p, vs, rfl, h2, h3⟩ := hw
  refine ⟨d x, xs.map d, h.dp (R.mono e hv), .lst (Or.inl (Or.inl (e _ _ h2))) (pr_dp h (Paired.mapP h3 fun _ _ => R.mono e)), ⟨h.lay x, Nat.le_trans (h.dep x) hn⟩, ⟨layAll h xs, Nat.le_trans (depAll h xs) hn⟩, q _ H G (Up.refl e) ?_⟩
  show V.bl _ = V.bl _
  rw [any_dt h]
/-! ### dicts of whole numbers compared -/
/-! ### tuples of several parts -/
def rTup (A : AR ι) : Rep ι := ⟨fun H v i => ∃ a vs, v = .ref a ∧ H a = some (.tup vs) ∧ A.r H vs i, fun e ⟨a, vs, h1, h2, h3⟩ => ⟨a, vs, h1, e _ _ h2, A.mono e h3⟩⟩
/-- parts as data -/
structure DtA (A : AR ι) (d : ι → List PyData) (n : Nat) : Prop where
  dp : ∀ {K : PySem.W.Frag} {H : Hp} {vs : List V} {x : ι}, A.r H vs x → DpAll K H vs (d x)
  lay : ∀ x, PyData.plainAll (d x) = true
  dep : ∀ x, PyData.depthAll (d x) ≤ n
  eq : ∀ x y, PyData.eqvAll (d x) (d y) = true ↔ x = y
/-! ### an item of a list cell -/
/-! ### {k: v for k in ks} -/
end
end Sim

/-! what a call gives is new: lists of dicts that are cleared later -/
namespace Sim
open PySem PySem.Spec PyProof.Rows L2 Evl
section
variable {K : PySem.W.Frag} {σ : L2.St} {G0 H0 G H G2 H2 W Gw Hw : Hp} {ls : List Addr} {cs cs0 : Cs} {l : Addr} {te : TE} {α β κ γ : Type} {R : Rep α} {S : Rep β} {D : Ends} {tz : TS}
end
section
variable {K : PySem.W.Frag} {σ : L2.St} {G0 H0 G H G2 H2 W : Hp} {ls : List Addr} {cs : Cs} {ta : TA} {α ι : Type} {R : Rep α} {A : AR ι}
end
end Sim

set_option maxHeartbeats 2000000
/-! name = {k: v for ..}: the name is set before the block goes -/
namespace L2
open PySem PySem.Spec PyProof.Rows
open PySem.Calls
section
variable {X : Cx}
end
end L2
namespace Sim
open PySem PySem.Spec PyProof.Rows L2 Evl SlX
section
variable {K : PySem.W.Frag} {C : Addr} {α : Type} {R : Rep α}
end
end Sim

/-! the hook over any choice of addresses; addresses reached, found by marks in one number (no dedup of lists) -/
namespace Sim
open PySem PySem.Spec PyProof.Rows L2 Evl LamX LamF NdefX
end Sim

set_option maxHeartbeats 2000000
/-! a method with defaults, called with all its arguments -/
namespace Sim
open PySem PySem.Spec PyProof.Rows L2 Evl
end Sim

set_option maxHeartbeats 2000000
/-! cells read as data by a call, and taken out of the data again behind it: what the call gave does not lean on them -/
namespace Sim
open PySem PySem.Spec PyProof.Rows L2 Evl SlX
section
variable {D : List Addr} {W Z G G0 H0 H : Hp} {ls : List Addr} {cs : Cs} {σ : L2.St} {te : TE} {α β : Type} {R : Rep α} {S : Rep β} {κ : Type}
/-! ### kinds of values -/
theorem Off.pd {x : α} (h : Off D W Z R x) : OffP D W Z (Sim.pd R x) := fun G v hZ hG r => h G v hZ hG r
/-- a value that is told only where a test holds -/
theorem E.guard {m : Option α} {g : α → Bool} (h : E te σ G W R m) : E te σ G W R (m >>= fun x => bif g x then some x else none) := fun z hz => by
  obtain ⟨x, hx, hz⟩ := bindS hz
  cases q : g x with
  | true =>
    rw [q] at hz
    cases hz
    exact h _ hx
  | false => rw [q] at hz; cases hz
end
end Sim

set_option maxHeartbeats 2000000
/-! an object that changes, with a list of its own: made, called, read -/
namespace Sim
open PySem PySem.Spec PyProof.Rows L2 Evl SlX
section
variable {K : PySem.W.Frag} {C C2 : Addr} {σ : L2.St} {G0 H0 G H G2 H2 W : Hp} {ls : List Addr} {cs : Cs} {l p : Addr} {ta : TA} {te : TE} {X : XK} {α β κ ι ρ : Type} {R : Rep α} {S : Rep β} {B : Rep κ} {A : AR ι} {D : Ends} {tz : TS} {ns : List Str}
section
variable {i j : Nat} {ps : List Pd} {ys : List κ}
end
end
end Sim

set_option maxHeartbeats 2000000
/-! dicts of data compared; tuples that may be a def's default; an object made with its default -/
namespace L2
open PySem PySem.Spec PyProof.Rows SlX
section
variable {K : PySem.W.Frag} {H : Hp}
end
end L2
namespace Sim
open PySem PySem.Spec PyProof.Rows L2 Evl SlX
section
variable {K : PySem.W.Frag} {C : Addr} {σ : L2.St} {G0 H0 G H G2 H2 W : Hp} {ls : List Addr} {cs : Cs} {l p : Addr} {ta : TA} {te tl : TE} {X : XK} {α β κ ι ρ : Type} {R : Rep α} {S : Rep β} {B : Rep κ} {A : AR ι} {D : Ends} {tz : TS} {ns : List Str}
/-! ### dicts of data -/
/-! ### tuples that may stand among a def's defaults -/
/-! ### a method with its default left out -/
end
end Sim

set_option maxHeartbeats 2000000
/-! objects told by some of their attributes; an object with three new lists of texts (an outlook) -/
namespace Sim
open PySem PySem.Spec PyProof.Rows L2 Evl SlX
section
variable {K : PySem.W.Frag} {C : Addr} {σ : L2.St} {G0 H0 G H G2 H2 W Z : Hp} {D : List Addr} {ls : List Addr} {cs : Cs} {l p x : Addr} {ta : TA} {te to : TE} {X : XK} {α β γ κ ι ρ : Type} {R : Rep α} {S : Rep β} {T : Rep γ} {A : AR ι} {ns all nw : List Str} {fl : α → List (Str × Pd)}
/-! ### all cells become data -/
/-! ### the outlook's shape -/
section
variable {α0 α1 : Type} {S0 : Rep α0} {S1 : Rep α1} {g0 : β → α0} {g1 g2 : β → α1} {u1 u2 u3 : β → List Str} {N : Addr → Prop} {f : ι → Option β} {mi : Option ι}
end

theorem o_slots {t : TS} {E : Ends} {σ' : L2.St} (e : σ = σ') (h : t E σ' H) : t E σ H := by rw [e]; exact h
/-! ### a paper and a list of texts read as data -/
section
variable {q : Addr} {i j k : Nat} {C2 : Addr} {B : Rep κ} {ys : List κ} {xs : List Str} {ps : List Pd}
end
end
end Sim

set_option maxHeartbeats 4000000
/-! an __init__ whose first statement is super().__init__(..), with own captured names -/
namespace Sim
open PySem PySem.Spec PyProof.Rows L2 PySem.W PySem.Calls NdefX
structure NScopeC (N ps : List Str) (sc : Scope) : Prop where
  kind : sc.kind = .function
  co : sc.isCoroutine = false
  gen : sc.isGenerator = false
  nd : N.Nodup
  pre : N.take ps.length = ps
  par : ∀ x ∈ ps, sc.names.lookup x = some .local ∨ sc.names.lookup x = some .cell
  free : ∀ y ∈ sc.names, y.2 = .free → y.1 = ("__class__" : Str)
  nocls : ∀ y ∈ sc.names, y.1 = ("__class__" : Str) → y.2 ≠ .cell
section
variable {M : Model} {A : Around} {E : Value → Shared → Prop} {s₀ s : Shared} {m cm : Str → Option Value} {env : Env} {own : List (Str × Addr)}
end
section
variable {M : Model} {A : Around} {E : Value → Shared → Prop} {s : Shared}
end
section
variable {CX : CXT} {P : Program} {w : World} {K : Frag} {mg : Str → Option Value} {base : Heap} {N ps psg : List Str} {F : NF} {C D f g : Addr} {fd fdg : FuncData} {k : Nat} {sp spg : Sp} {e : Expr} {es : List Expr} {rest : List Stmt} {p0 p1 p2 p3 p4 : Pos} {pl : Sem Bool}
end
end Sim

set_option maxHeartbeats 2000000
/-! list(reversed(a list)) -/
namespace RT
open PySem PySem.Spec PyProof.Rows
section
variable {prog : Program} {w : World} {A : Around} {E : Value → Shared → Prop} {s : Shared}
end
section
variable {prog : Program} {w : World} {A : Around} {E : Value → Shared → Prop} {s : Shared}
end
end RT
namespace L2
open PySem PySem.Spec PyProof.Rows RT
section
variable {X : Cx}
end
end L2
namespace Sim
open PySem PySem.Spec PyProof.Rows L2 Evl SlX
section
variable {K : PySem.W.Frag} {σ : L2.St} {G H W : Hp} {te : TE} {α : Type} {R : Rep α}
end
end Sim

set_option maxHeartbeats 2000000
/-! a dict walked while it is locked; dicts read whether they are locked or not -/
namespace Sim
open PySem PySem.Spec PyProof.Rows L2 Evl SlX
section
variable {K : PySem.W.Frag} {C : Addr} {σ : L2.St} {G0 H0 G H G2 H2 W : Hp} {ls : List Addr} {cs : Cs} {l p a : Addr} {ta : TA} {te td ti tx : TE} {X : XK} {α β κ ι ρ : Type} {R : Rep α} {S : Rep β} {D : Ends} {tz : TS} {ns all : List Str} {kf : κ → Key} {od : Obj} {ws : List (Key × V)}
section
variable [DecidableEq κ]
end
/-! ### locking keeps what is known -/
end
end Sim

/-! a | b, a of an own class, b of one, too, or a function; pairs of classes; a lambda that asks -/
namespace PySem.W
open PySem PySem.Spec PyProof.Rows PySem.Calls
variable {prog : Program} {w : World} {A : Around} {E : Value → Shared → Prop} {s : Shared} {K : Frag} {x C L f : Addr} {h₀ : Heap} {m : Str → Option Value} {ox : Obj} {od : Option Obj} {T : String}
end PySem.W
namespace L2
open PySem PySem.Spec PyProof.Rows
structure OpFn (K : PySem.W.Frag) (C : Addr) (nm : String) (f : Addr) : Prop where
  sc : PySem.W.selfFirst K C = true
  at_ : PySem.W.findIn K (.ref C) (PySem.dunder nm) = some (some (.ref f))
  fn : PySem.W.isFn K (.ref f) = true
  nr : PySem.W.findIn K (.ref C) (dunderR nm) = some none
  t1 : PySem.W.findIn K (.type "function") (PySem.dunder nm) = some none
  t2 : PySem.W.findIn K (.type "function") (dunderR nm) = some none
  sub : PySem.W.subIn K (.type "function") (.ref C) = some false
section
variable {X : Cx} {CX : CXT} {k : Nat} {f C : Addr} {fd : FuncData} {ps : List Str} {sp : Sp} {pins : List (Addr × Obj)} {σ : St} {H : Hp} {s : Shared} {ta tb : TE}
end
end L2
namespace Sim
open PySem PySem.Spec PyProof.Rows L2 Evl LamX LamF NdefX
section
variable {δ γ : Type} {cn : List Str} {nm : String} {D : Str} {K : PySem.W.Frag} {S : Rep δ} {T : Rep γ} {ob : δ → Bool} {σ : L2.St} {G W : Hp} {ta tb te : TE} {ma mb m : Option δ}
end
/-! ### one of two kinds -/
/-! ### lambda ask: ask(nm), as a side -/
section
variable {P : Program} {w : World} {K : PySem.W.Frag} {mg : Str → Option Value} {base : Heap} {fr ps N : List Str} {f : Addr} {F : LF} {G : Hp}
end
end Sim

/-! a dict lent to a making; a reading that may raise where nothing is raised -/
namespace Sim
open PySem PySem.Spec PyProof.Rows L2 Evl LamX LamF NdefX
section
variable {σ : L2.St} {G0 H0 G H G1 H1 W : Hp} {ls : List Addr} {cs : Cs} {l : Addr} {cp0 : CP} {te : TE} {α β ι κ : Type} {R : Rep α} {cp : β → CP} {C : Addr} {A : AR ι} {ns : List Str} {K : PySem.W.Frag} {T : Rep β}
end
end Sim

/-! dict(x), x a list (or a plain tuple) of pairs -/
namespace L2
open PySem PySem.Spec PyProof.Rows
section
variable {X : Cx} {pins : List (Addr × Obj)} {σ : St} {H : Hp} {s : Shared}
end
end L2
namespace Sim
open PySem PySem.Spec PyProof.Rows L2 Evl
section
variable {σ : L2.St} {G0 H0 G H W : Hp} {ls : List Addr} {cs : Cs} {l : Addr} {te : TE} {κ α : Type} [DecidableEq κ] {kf : κ → Key} {Sk : Rep κ} {R : Rep α} {K : PySem.W.Frag}
end
end Sim

/-! sides that are called with an asker whose list of asks is known -/
namespace Sim
open PySem PySem.Spec PyProof.Rows L2 Evl LamX LamF NdefX
section
variable (P : Program) (w : World) (K : PySem.W.Frag) (mg : Str → Option Value) (base : Heap) (j : Nat)
end
section
variable {P : Program} {w : World} {K : PySem.W.Frag} {mg : Str → Option Value} {base : Heap} {j k kk : Nat} {ω : Type} {G0 H0 G H G2 H2 : Hp} {ls : List Addr} {cs : Cs} {f f0 fk C la : Addr} {rO : Rep ω} {σ : L2.St} {fd : FuncData} {ps : List Str}
variable {sem : AskQ → ω → Ql → Option ((Xn ⊕ Int) × Ql)}
theorem SideOkq.congr {sem' : AskQ → ω → Ql → Option ((Xn ⊕ Int) × Ql)} (h : SideOkq P w K mg base j rO k G f sem) (e : ∀ (a : AskQ) (o : ω) (s : Ql), sem' a o s = sem a o s) : SideOkq P w K mg base j rO k G f sem' :=
  ⟨h.cb, h.ok.imp fun vs H Q E ⟨la, ask, G, fk, o, s, r, s', a1, a2, a3, a4, a5, a6, a7⟩ => ⟨la, ask, G, fk, o, s, r, s', a1, a2, a3, a4, a5, by rw [← a6]; exact (e ask o s).symm, a7⟩⟩
end
end Sim

/-! a comprehension that asks; the truth of a list -/
namespace Sim
open PySem PySem.Spec PyProof.Rows L2 Evl LamX LamF NdefX
section
variable {α γ κ : Type} {R : Rep α} {T : Rep γ} {K : PySem.W.Frag} {σ : L2.St} {G0 H0 G H W : Hp} {ls : List Addr} {cs : Cs} {tl te : TE} {j : Nat} {Q : VK}
end
end Sim

/-! a thing asked within a comprehension; slotted objects below laid cells -/
namespace LamF
open PySem PySem.Spec PyProof.Rows L2
end LamF
namespace Sim
open PySem PySem.Spec PyProof.Rows L2 Evl LamX LamF NdefX
section
variable {P : Program} {w : World} {K : PySem.W.Frag} {mg : Str → Option Value} {base : Heap} {σ : L2.St} {k : Nat} {G0 H0 G H G2 H2 : Hp} {ls : List Addr} {cs : Cs} {f : Addr}
end
instance {α : Type} {R : Rep α} [Dn R] : Dn (rO R) := ⟨fun {_ _ _ x} hl h => by
  cases x with
  | none => exact h
  | some x => exact Dn.dn (R := R) hl h⟩
end Sim

set_option maxHeartbeats 4000000
/-! super().m(..) at any place of an own class's def -/
namespace Sim
open PySem PySem.Spec PyProof.Rows L2 PySem.W PySem.Calls NdefX
/-- of an expression, statements: at this activation -/
structure PEz (X : Cx) (c : Code) (e : Expr) (t : TE) : Prop where
  run : ∀ (pins : List (Addr × Obj)) (s : Shared) (σ : L2.St) (H : Hp) (Q : VK), L2.Inv X pins σ H s → t σ H Q → _root_.PySem.wpAt (model X.prog X.w) X.A c (eval e X.env) (EP X pins σ Q) X.xe s
structure PSz (X : Cx) (c : Code) (st : List Stmt) (t : TS) : Prop where
  run : ∀ (pins : List (Addr × Obj)) (s : Shared) (σ : L2.St) (H : Hp) (D : Ends), L2.Inv X pins σ H s → t D σ H → _root_.PySem.wpAt (model X.prog X.w) X.A c (execs st X.env) (SP X pins D) X.xe s
section
variable {X : Cx} {c : Code} {st : Stmt} {rest : List Stmt} {t u : TS} {te : TE} {e : Expr}
end
section
variable {CX CX1 : CXT} {P : Program} {w : World} {K : Frag} {mg : Str → Option Value} {base : Heap} {N ps psg : List Str} {F : NF} {C D f g : Addr} {fd fdg : FuncData} {k : Nat} {sp spg : Sp} {e : Expr} {es : List Expr} {nm : Str} {p0 p1 p2 p3 : Pos} {pl : Sem Bool} {A : Around} {outer : List Env} {s0 : Shared} {H0 : Hp} {E : XK} {c : Code} {ta : TA}
end
end Sim

/-! list.extend by a list of data -/
namespace Sim
open PySem PySem.Spec PyProof.Rows L2 Evl
section
variable {σ : L2.St} {G0 H0 G H : Hp} {ls : List Addr} {cs : Cs} {l : Addr} {te : TE} {tz : TS} {D : Ends} {α : Type} {R : Rep α} {K : PySem.W.Frag}
end
end Sim

/-! an object made with a lent list and with effects in its arguments -/
namespace Sim
open PySem L2 Evl
section
variable {K : PySem.W.Frag} {C : Addr} {σ : L2.St} {G0 H0 G H : Hp} {ls : List Addr} {cs : Cs} {l : Addr} {X : XK} {Q : VK} {α ι κ : Type} {A : AR ι}
end
end Sim

/-! a tuple whose object is told (no dict of its own): tuple(list) makes one, dict(tuple) reads it -/
namespace L2
open PySem PySem.Spec PyProof.Rows
section
variable {X : Cx} {pins : List (Addr × Obj)} {σ : St} {H : Hp} {s : Shared}
end
end L2
namespace Sim
open PySem PySem.Spec PyProof.Rows L2 Evl
section
variable {σ : L2.St} {G0 H0 G H W : Hp} {ls : List Addr} {cs : Cs} {l : Addr} {te : TE} {κ α : Type} [DecidableEq κ] {kf : κ → Key} {Sk : Rep κ} {R : Rep α} {K : PySem.W.Frag}
/-- a tuple, told -/
def rTd (R : Rep α) : Rep (List α) := ⟨fun H v xs => ∃ a vs o, v = .ref a ∧ H a = some (.frz o (.tup vs)) ∧ o.dict = none ∧ Paired (R.r H) vs xs, fun e ⟨a, vs, o, h1, h2, h3, h4⟩ => ⟨a, vs, o, h1, e _ _ h2, h3, Paired.mapP h4 fun _ _ => R.mono e⟩⟩
end
end Sim

/-! a generator def called with keywords -/
namespace L2
open PySem PySem.Spec PyProof.Rows
section
variable {X : Cx} {k n : Nat} {f : Addr} {fd : FuncData} {ps ks : List Str} {sp : SpG} {E : XK} {x : Str} {p pos : Pos} {e : Expr} {es : List Expr} {kws : List Keyword} {t tk : TA} {g : List Value → List Value → List Value} {gV : List V → List V → List V}
end
end L2

/-! generators: if; the walk's lemmas; their promise -/
namespace L2
open PySem PySem.Spec PyProof.Rows GenW
end L2
namespace Sim
open PySem PySem.Spec PyProof.Rows L2 Evl
section
variable {K : PySem.W.Frag} {σ : L2.St} {G0 H0 G H G2 H2 W : Hp} {ls : List Addr} {cs : Cs} {l : Addr} {ta tb te tc : TE} {t : TT} {α β γ ι κ : Type} {R : Rep α} {S : Rep β} {A : AR ι} {D : GEnds} {ys : List V} {tu tv u : TGn}
theorem sz_lt {n : Nat} (h : sz n = true) : n < sizeLine := sz_l h
end
section
variable {K : PySem.W.Frag} {C : Addr} {σ : L2.St} {G0 H0 G H G2 H2 : Hp} {ls : List Addr} {cs : Cs} {X : XK} {α κ ι : Type} {A : AR ι} {B : Rep κ} {ns : List Str}
end
end Sim

/-! a != b of an own class that has __eq__ alone -/
namespace L2
open PySem PySem.Spec PyProof.Rows
section
variable {X : Cx} {k : Nat} {f C : Addr} {fd : FuncData} {ps : List Str} {sp : Sp}
end
end L2
namespace Sim
open PySem PySem.Spec PyProof.Rows L2 Evl
end Sim

/-! told tuples: read in one way, and they stay below laid cells -/
namespace Sim
open PySem PySem.Spec PyProof.Rows L2 Evl
instance {α : Type} {R : Rep α} [Dn R] : Dn (rTd R) := ⟨fun hl ⟨a, vs, o, h1, h2, ho, h3⟩ => ⟨a, vs, o, h1, dn_at hl (fun _ z => by cases z) h2, ho, Paired.mapP h3 fun _ _ => Dn.dn hl⟩⟩
end Sim

/-! a, b = x, y; a pair of new dicts that a call gave, cleared later -/
namespace Sim
open PySem PySem.Spec PyProof.Rows L2 Evl
section
variable {K : PySem.W.Frag} {σ : L2.St} {G0 H0 G H G2 H2 W Gw Hw : Hp} {ls : List Addr} {cs cs0 : Cs} {l : Addr} {ta : TA} {α β κ ι : Type} {R : Rep α} {S : Rep β} {A : AR ι} {D : Ends} {tz : TS}
end
end Sim

/-! sorted(xs), xs a list of data that are alike -/
namespace Sim
open PySem PySem.Spec PySem.W PyProof.Rows L2 Evl
section
variable {K : PySem.W.Frag} {α : Type} {R : Rep α}
end
/-! ### what is alike -/
end Sim

/-! calls with keywords that may raise; a generator drained that may raise; a loop over a call that may raise -/
namespace L2
open PySem PySem.Spec PyProof.Rows
section
variable {X : Cx} {CX : CXT} {k n : Nat} {f : Addr} {fd : FuncData} {ps ks : List Str} {sp : Sp} {E : St → XK} {x : Str} {p pos : Pos} {e : Expr} {es : List Expr} {kws : List Keyword} {t tk : TA} {g : List Value → List Value → List Value} {gV : List V → List V → List V}
end
end L2
namespace Sim
open PySem PySem.Spec PyProof.Rows L2 Evl
section
variable {K : PySem.W.Frag} {σ : L2.St} {G0 H0 G H G2 H2 W : Hp} {ls : List Addr} {cs : Cs} {te : TE} {ta tk : TA} {α γ ι κ δ : Type} {R : Rep α} {T : Rep γ} {A : AR ι} {A2 : AR δ} {B : AR κ} {D : Ends} {n m' : Nat}
end
section
variable {K : PySem.W.Frag} {σ : L2.St} {G0 H0 G H G2 H2 W : Hp} {te : TE} {α β γ : Type} {R : Rep α} {S : Rep β} {T : Rep γ}
end
section
open PySem PySem.Spec PyProof.Rows L2 Evl LamX LamF NdefX
/-- tuples of several things stay below laid cells -/
class DnAr {ι : Type} (A : AR ι) : Prop where
  dn : ∀ {G : Hp} {cs : List (Addr × Obj)} {vs : List V} {x : ι}, (∀ c o, cs.lookup c = some o → G c = some (CelO o)) → A.r G vs x → A.r (unlayH cs G) vs x
instance : DnAr aN := ⟨fun _ h => h⟩
instance {α ι : Type} {R : Rep α} {A : AR ι} [Dn R] [DnAr A] : DnAr (aC R A) := ⟨fun hl ⟨v, ws, h1, h2, h3⟩ => ⟨v, ws, h1, Dn.dn hl h2, DnAr.dn hl h3⟩⟩
instance {ι : Type} {A : AR ι} [DnAr A] : Dn (rTup A) := ⟨fun hl ⟨a, vs, h1, h2, h3⟩ => ⟨a, vs, h1, dn_at hl (fun _ z => by cases z) h2, DnAr.dn hl h3⟩⟩
end
end Sim

/-! a changing object's method in an expression; a list of three new lists, written and cleared -/
namespace Sim
open PySem PySem.Spec PyProof.Rows L2 Evl SlX
section
variable {K : PySem.W.Frag} {C C2 : Addr} {σ : L2.St} {G0 H0 G H G2 H2 W : Hp} {ls : List Addr} {cs : Cs} {l p : Addr} {ta : TA} {te : TE} {X : XK} {α β κ ι ρ : Type} {R : Rep α} {S : Rep β} {B : Rep κ} {A : AR ι} {D : Ends} {tz : TS} {ns : List Str}
end
section
variable {K : PySem.W.Frag} {σ : L2.St} {G0 H0 G H G2 H2 W Gw Hw : Hp} {ls : List Addr} {cs cs0 : Cs} {l : Addr} {te t1 t2 t3 : TE} {ta : TA} {α β γ ι : Type} {R : Rep α} {R1 : Rep α} {R2 : Rep β} {R3 : Rep γ} {A : AR ι} {D : Ends} {tz : TS}
end
end Sim

/-! all cells read as data: a call that gives a number, a text or a truth value -/
namespace Sim
open PySem PySem.Spec PyProof.Rows L2 Evl
section
variable {K : PySem.W.Frag} {σ : L2.St} {G0 H0 G H : Hp} {ls : List Addr} {cs : Cs} {l p : Addr} {C : Addr} {ns : List String} {α β κ : Type} {B : Rep κ} {S : Rep β} {R : Rep α} {i j : Nat} {te : TE}
end
end Sim

/-! a list lent to a def that gives a new list; lent to the making of an object with a list -/
namespace Sim
open PySem PySem.Spec PyProof.Rows L2 Evl SlX
section
variable {K : PySem.W.Frag} {C C2 : Addr} {σ : L2.St} {G0 H0 G H G2 H2 W : Hp} {ls : List Addr} {cs : Cs} {l p : Addr} {ta : TA} {te : TE} {X : XK} {α β κ ι ρ : Type} {R : Rep α} {S : Rep β} {B : Rep κ} {A : AR ι} {D : Ends} {tz : TS} {ns : List Str}
end
section
variable {K : PySem.W.Frag} {σ : L2.St} {G W : Hp} {l : Addr} {κ γ ι : Type} {T : Rep γ} {A : AR ι}
end
end Sim

/-! a static method with a star parameter -/
namespace L2
open PySem PySem.Spec PyProof.Rows
section
variable {X : Cx} {CX : CXT} {k : Nat} {f C p : Addr} {fd : FuncData} {ps : List Str} {sp : Sp} {E : St → XK} {x m : Str} {pos apos : Pos} {e o : Expr} {es : List Expr} {ta : TE} {t : TA}
variable {Ec : XK}
end
end L2
namespace Sim
open PySem PySem.Spec PyProof.Rows L2 Evl
section
variable {K : PySem.W.Frag} {σ : L2.St} {G H W : Hp} {ta t1 tr : TA} {te : TE} {α β γ : Type} {R : Rep α} {S : Rep β} {T : Rep γ} {C : Addr} {n : Nat}
end
end Sim

set_option maxHeartbeats 1000000
/-! a for over a generator: while the generator sleeps its consumer's frame changes. The context's s_0 is a ghost: made anew at each wake. -/
namespace GenF
open PySem PySem.Spec PyProof.Rows L2 GenW

section
variable {q : Gq} {s0 s1 : Shared} {H0 H1 : Hp}
end

/-- while it sleeps -/
structure Slept (q : Gq) (H : Hp) (v : Value) (s s' : Shared) : Prop where
  os : s'.os = s.os
  keep : ∀ b o, b ≠ q.L → s.heap.get? b = some o → s'.heap.get? b = some o
  env0 : Env0 q.P q.w q.K q.mg q.base q.A q.outer s' H
  rec_ : ∀ us, q.Rec s.heap us → q.Rec s'.heap (us ++ [v])
section
variable {q : Gq} {ip : List (Addr × Obj)} {s₀ s s' : Shared} {ys : List V} {σ : L2.St} {H H0 : Hp} {s0 : Shared} {x : V} {v : Value}
end

/-! ### the protocol, statements -/
def GY (q : Gq) : Protocol := fun n s₀ v s kap =>
  ∃ ys x ip σ H, n + 1 + ys.length = sizeLine ∧ RelV x v ∧ GI q ip s₀ ys σ H s ∧ ∀ s', Slept q H v s s' → kap (.send .none) s'
def XEx (q : Gq) (s₀ : Shared) (e : Value) (s : Shared) : Prop := ∃ ys s0 H0, Gh q s₀ ys s0 H0 ∧ (q.cx s0 H0).xe e s
def GSP (q : Gq) (ip : List (Addr × Obj)) (s₀ : Shared) (D : GEnds) (ys : List V) (f : Flow) (s : Shared) : Prop :=
  match f with
  | .next => ∃ σ H, GI q ip s₀ ys σ H s ∧ D.nx ys σ H
  | .brk => ∃ σ H, GI q ip s₀ ys σ H s ∧ D.bk ys σ H
  | .cont => ∃ σ H, GI q ip s₀ ys σ H s ∧ D.ct ys σ H
  | .ret u => ∃ v σ H, GI q ip s₀ ys σ H s ∧ RelV v u ∧ D.rt ys v H
structure GC (q : Gq) (c : Code) (fs : List Frame) (gd : Bool → Bool) : Prop where
  ok : GqOk q
  over : q.A.over c fs = q.A.deeper q.env
  split : splitAtGen fs = none
  guard : fs.any Frame.guarded = false
  gd : gd false = false
structure GK (q : Gq) (ip : List (Addr × Obj)) (R : GenEnd) (c : Code) (fs : List Frame) (K : Flow → Sem PySem.Fin) (J : Value → Sem PySem.Fin) (D : GEnds) : Prop where
  ok : ∀ (n : Nat) (ys : List V) (s₀ s : Shared) (f : Flow), n + ys.length = sizeLine → GSP q ip s₀ D ys f s → Seg (model q.P q.w) q.A R (GY q) n s₀ c (K f) fs s
  exc : ∀ (n : Nat) (s₀ : Shared) (e : Value) (s : Shared), XEx q s₀ e s → Seg (model q.P q.w) q.A R (GY q) n s₀ c (J e) fs s
structure GS (q : Gq) (st : Stmt) (t : TGn) : Prop where
  run : ∀ (ip : List (Addr × Obj)) (R : GenEnd) (n : Nat) (ys : List V) (s₀ : Shared) (c : Code) (fs : List Frame) (K : Flow → Sem PySem.Fin) (J : Value → Sem PySem.Fin) (gd : Bool → Bool) (lv : List Value → List Value) (s : Shared) (σ : L2.St) (H : Hp) (D : GEnds),
    GC q c fs gd → n + ys.length = sizeLine → GK q ip R c fs K J D → GI q ip s₀ ys σ H s → t D ys σ H →
    Seg (model q.P q.w) q.A R (GY q) n s₀ c ((exec st q.env).wrap K J gd lv) fs s
structure GSs (q : Gq) (st : List Stmt) (t : TGn) : Prop where
  run : ∀ (ip : List (Addr × Obj)) (R : GenEnd) (n : Nat) (ys : List V) (s₀ : Shared) (c : Code) (fs : List Frame) (K : Flow → Sem PySem.Fin) (J : Value → Sem PySem.Fin) (gd : Bool → Bool) (lv : List Value → List Value) (s : Shared) (σ : L2.St) (H : Hp) (D : GEnds),
    GC q c fs gd → n + ys.length = sizeLine → GK q ip R c fs K J D → GI q ip s₀ ys σ H s → t D ys σ H →
    Seg (model q.P q.w) q.A R (GY q) n s₀ c ((execs st q.env).wrap K J gd lv) fs s
section
variable {q : Gq} {st : Stmt} {rest : List Stmt} {e : Expr} {yp pos : Pos} {te : TE}
/-! ### while -/
end
end GenF

set_option maxHeartbeats 1000000
/-! a generator def's promise to a for; the for that keeps the last item -/
namespace GenF
open PySem PySem.Spec PyProof.Rows L2 GenW

/-- told of L's object whatever its slots -/
def RecOk (L : Addr) (Rec : Heap → List Value → Prop) : Prop := ∀ (h h' : Heap) us, (∀ o, h.get? L = some o → ∃ sl, h'.get? L = some { o with slots := sl }) → Rec h us → Rec h' us
structure SleptX (P : Program) (w : World) (K : PySem.W.Frag) (mg : Str → Option Value) (base : Heap) (A : Around) (outer : List Env) (L : Addr) (Rec : Heap → List Value → Prop) (H : Hp) (v : Value) (s s' : Shared) : Prop where
  os : s'.os = s.os
  keep : ∀ b o, b ≠ L → s.heap.get? b = some o → s'.heap.get? b = some o
  env0 : Env0 P w K mg base A outer s' H
  rec_ : ∀ us, Rec s.heap us → Rec s'.heap (us ++ [v])
def REnd (P : Program) (w : World) (outer : List Env) (H : Hp) (s : Shared) (L : Addr) (Rec : Heap → List Value → Prop) (a : Addr) (g : Nat) (Q : List V → Hp → Prop) (E : XK) : GenEnd := fun n s₀ r s1 =>
  ((r = .ok (.ret .none) ∨ r = .ok .next) ∧ ∃ ys H', n + ys.length = sizeLine ∧ Out P w outer H s L Rec s₀ ys H' s1 ∧ Q ys H') ∨
  ∃ e, r = .error e ∧ s1.heap.IsGen a g ∧ ∃ s0 H0, CX P w outer H0 s0 E e s1
def YItem (P : Program) (w : World) (K : PySem.W.Frag) (mg : Str → Option Value) (base : Heap) (A : Around) (outer : List Env) (H : Hp) (s : Shared) (L : Addr) (Rec : Heap → List Value → Prop) (a : Addr) (g : Nat) : Protocol := fun n s₀ v s1 kap =>
  ∃ ys x H1, n + 1 + ys.length = sizeLine ∧ RelV x v ∧ Out P w outer H s L Rec s₀ ys H1 s1 ∧ s1.heap.NoLimit ∧ s1.heap.IsGen a g ∧ ∀ s', SleptX P w K mg base A outer L Rec H1 v s1 s' → kap (.send .none) s'
/-- what a call of a generator def gives -/
def GMade (P : Program) (w : World) (K : PySem.W.Frag) (mg : Str → Option Value) (base : Heap) (k : Nat) (outer : List Env) (H : Hp) (s : Shared) (Q : List V → Hp → Prop) (E : XK) (u : Value) (s' : Shared) : Prop :=
  ∃ (a : Addr) (g : Nat) (c : Code), u = .ref a ∧ s.heap.objs.size ≤ a ∧ a < s'.heap.objs.size ∧ s'.heap.IsGen a g ∧ s'.gens[g]? = some (.fresh c) ∧ s'.os = s.os ∧ AllBare s'.gens ∧ s'.heap.NoLimit ∧ (∀ b o, s.heap.get? b = some o → s'.heap.get? b = some o) ∧
    ∀ (A : Around) (L : Addr) (Rec : Heap → List Value → Prop) (s2 : Shared), Room k A → A.frames = some outer → L ∈ frs outer → RecOk L Rec → Rec s2.heap [] → (∀ b o, s'.heap.get? b = some o → s2.heap.get? b = some o) → s2.os = s.os → AllBare s2.gens →
      Seg (model P w) A (REnd P w outer H s L Rec a g Q E) (YItem P w K mg base A outer H s L Rec a g) sizeLine s2 c ((model P w).den c) [] s2
structure GFn (P : Program) (w : World) (K : PySem.W.Frag) (mg : Str → Option Value) (base : Heap) (k : Nat) (f : Addr) (fd : FuncData) (ps : List Str) (sp : SpG) : Prop where
  len : ∀ vs H Q E, sp vs H Q E → vs.length = ps.length
  run : ∀ (A : Around) (outer : List Env) (s : Shared) (H : Hp) (args : Args) (us : List Value) (vs : List V) (Q : List V → Hp → Prop) (E : XK), Room k A → Env0 P w K mg base A outer s H → BindsTo s fd args (ps.zip us) → Vals vs us → sp vs H Q E →
    codeAny (model P w) A (.call (.ref f) args) (fun r s' => match r with | .ok (.ret u) => GMade P w K mg base k outer H s Q E u s' | _ => False) s
section
variable {q : Gq} {ip : List (Addr × Obj)} {s₀ s s' : Shared} {ys : List V} {σ : L2.St} {H : Hp}
end
end GenF

set_option maxHeartbeats 1000000
/-! for x in g(..): y = x -/
namespace GenF
open PySem PySem.Spec PyProof.Rows L2 GenW

theorem ns_slots {h h' : Heap} {L : Addr} {m : Str → Option Value} (k : ∀ o, h.get? L = some o → ∃ sl, h'.get? L = some { o with slots := sl }) (x : h.Ns L m) : h'.Ns L m := by
  obtain ⟨o, es, ep, ho, r⟩ := x
  obtain ⟨sl, e⟩ := k o ho
  exact ⟨_, es, ep, e, r⟩
section
variable {X : Cx} {pins : List (Addr × Obj)} {σ : L2.St} {H H1 : Hp} {s sc : Shared}
/-- the consumer's frame holds behind the generator's turn -/
theorem back {s₀ s1 : Shared} {σw : L2.St} {Hw H' : Hp} {Rec : Heap → List Value → Prop} {ys : List V} (hst : X.stack = X.env :: X.outer) (hfr : X.env.frame = some X.env.locals) (hcl : ∀ x c, X.env.cells.lookup x = some c → False)
    (I1 : Inv X pins σ H1 sc) (Iw : Inv X pins σw Hw s₀) (o : Out X.prog X.w X.stack H1 sc X.env.locals Rec s₀ ys H' s1) : Inv X pins σw H' s1 := by
  have hfs : frs X.stack = X.env.locals :: X.fs := by
    rw [hst]
    unfold frs
    rw [List.filterMap_cons, hfr]
    rfl
  have neL : ∀ b ob, X.s_0.heap.get? b = some ob → b ≠ X.env.locals := fun b ob e => Nat.ne_of_lt (Nat.lt_of_lt_of_le (Heap.lt_size e) I1.ok.above)
  have nex : ∀ b, b ≠ X.env.locals → b ∉ [X.env.locals] := fun b h z => h (List.mem_singleton.mp z)
  have nfs : ∀ b, b ≠ X.env.locals → b ∉ X.fs → b ∉ frs X.stack := fun b h h2 z => by
    rw [hfs] at z
    exact (List.mem_cons.mp z).elim h h2
  refine ⟨I1.ok, o.os.trans I1.os, o.bare, ⟨fun b ob e n hb hx => ?_, fun b ob e n hb hx => ?_, fun b ob e n hx => ?_, fun b ob e hx => ?_, fun b xs e => o.un.tups b xs (I1.base.tups b xs e), fun b ob xs e => o.un.frzs b ob xs (I1.base.frzs b ob xs e), fun b ps e => ?_⟩, ?_, fun x c e => (hcl x c e).elim, o.nL, fun x c e => (hcl x c e).elim, fun p hp => ?_, o.hok, Iw.len⟩
  · exact o.un.keep b ob (I1.base.keep b ob e n hb hx) (I1.base.free b ob e n hx) (nfs b (neL b ob e) hb) (nex b (neL b ob e))
  · obtain ⟨sl, e1⟩ := I1.base.slot b ob e n hb hx
    obtain ⟨sl', e2⟩ := o.un.any e1 (I1.base.free b ob e n hx) (nex b (neL b ob e))
    exact ⟨sl', e2⟩
  · obtain ⟨o', e1⟩ := I1.base.there b ob e hx
    exact o.un.free b o' e1 (I1.base.free b ob e n hx) (nex b (neL b ob e))
  · obtain ⟨o', e1⟩ := I1.base.there b ob e hx
    exact o.un.there b o' e1 (nex b (neL b ob e))
  · obtain ⟨m1, e1⟩ := I1.base.tbls b ps e
    obtain ⟨m2, e2⟩ := o.un.tbls b _ e1
    exact ⟨m1 ++ m2, by rw [e2, Array.append_assoc]⟩
  · obtain ⟨m, hn, hl⟩ := Iw.loc
    refine ⟨m, ns_slots o.slot hn, fun i x v e1 e2 e3 => ?_⟩
    obtain ⟨u, r, l⟩ := hl i x v e1 e2 e3
    refine ⟨u, r, ?_⟩
    rcases l with l | ⟨_, c, e, _⟩
    · exact .inl l
    · exact (hcl x c e).elim
  · obtain ⟨e, n, ne, nf, d⟩ := I1.pin p hp
    exact ⟨o.un.keep p.1 p.2 e n (nfs p.1 ne nf) (nex p.1 ne), o.un.free p.1 p.2 e n (nex p.1 ne), ne, nf, d⟩
end
/-! ### the call -/
structure PGen (X : Cx) (k : Nat) (e : Expr) (tg : TGen) (E : XK) : Prop where
  run : ∀ (pins : List (Addr × Obj)) (s : Shared) (σ : L2.St) (H : Hp) (cont : List V → Hp → Prop), Inv X pins σ H s → tg σ H cont → wpAny (model X.prog X.w) X.A (eval e X.env)
    (fun u s' => ∃ H1 sc, Inv X pins σ H1 sc ∧ GMade X.prog X.w X.K X.mg X.base k X.stack H1 sc cont E u s') X.xe s
section
variable {X : Cx} {k : Nat} {f : Addr} {fd : FuncData} {ps : List Str} {sp : SpG} {dvs : List V} {ds : List Value} {x : Str} {p pos' : Pos} {E : XK}
/-! ### the loop -/
end
end GenF

/-! a for over a generator, told by data -/
namespace Sim
open PySem PySem.Spec PyProof.Rows L2 Evl
section
variable {K : PySem.W.Frag} {σ : L2.St} {G0 H0 G H : Hp} {ls : List Addr} {cs : Cs} {ta : TA} {α ι : Type} {R : Rep α} {A : AR ι} {D : Ends} {tz : TS}
end
end Sim

/-! f(.., lambda n: d[n]): the function asks a table, no state -/
namespace Sim
open PySem PySem.Spec PyProof.Rows L2 Evl LamX LamF NdefX
section
variable {P : Program} {w : World} {K : PySem.W.Frag} {mg : Str → Option Value} {base : Heap} {kk : Nat} {G G' : Hp} {f : Addr} {F : LF} {fr N : List Str} {vt : V} {tbl : List (Str × Int)} {x0 y0 : Str}
end
section
variable {X : Cx} {kk : Nat} {σ : L2.St} {G0 H0 G H : Hp} {ls : List Addr} {cs : Cs} {ta : TA} {ι α γ : Type} {A : AR ι} {R : Rep γ} {Q : VK}
end
end Sim

set_option maxHeartbeats 2000000
/-! a method that gives a new object that changes -/
namespace Sim
open PySem PySem.Spec PyProof.Rows L2 Evl SlX
section
variable {K : PySem.W.Frag} {C C2 : Addr} {σ : L2.St} {G0 H0 G H G2 H2 W : Hp} {ls : List Addr} {cs : Cs} {l p : Addr} {ta : TA} {to : TE} {X : XK} {α β κ ι ρ : Type} {R : Rep α} {S : Rep ρ} {B : Rep κ} {A : AR ι} {D : Ends} {tz : TS} {ns ns2 : List Str}
end
end Sim

/-! tuples of several unlike parts: their length -/
namespace Sim
open PySem PySem.Spec PyProof.Rows L2 Evl
instance {ι : Type} {g : ι → List PyData} : NoN (fun x : ι => PyData.tuple (g x)) := ⟨fun x => ⟨by simp [PyData.eqv], by simp [PyData.eqv]⟩⟩
end Sim

/-! tuples of several unlike parts: their length -/
namespace Sim
open PySem PySem.Spec PyProof.Rows L2 Evl
section
variable {K : PySem.W.Frag} {C C2 : Addr} {σ : L2.St} {G0 H0 G H G2 H2 W : Hp} {ls : List Addr} {cs : Cs} {l p : Addr} {ta : TA} {te : TE} {X : XK} {α β κ ι ρ : Type} {R : Rep α} {S : Rep β} {B : Rep κ} {A : AR ι} {ns : List Str}
end
end Sim

/-! an exception class without an own __init__: raised, and nothing else; a def called with its defaults -/
namespace Sim
open PySem PySem.Spec PyProof.Rows L2 Evl
section
variable {P : Program} {w : World} {K : PySem.W.Frag} {mg : Str → Option Value} {base : Heap}
end
end Sim

/-! a field of what a call gave -/
namespace Sim
open PySem PySem.Spec PyProof.Rows L2 Evl SlX
section
variable {K : PySem.W.Frag} {σ : L2.St} {G0 H0 G H : Hp} {ls : List Addr} {cs : Cs} {to : TE} {α β : Type} {S : Rep β} {C : Addr} {fl : α → List (Nat × Pd)} {Q : VK}
end
end Sim

set_option maxHeartbeats 2000000
/-! try: suite / finally: suite (the first one falls through or raises) -/
namespace L2
open PySem PySem.Spec PyProof.Rows
section
variable {X : Cx} {body : List Stmt} {f₀ : Stmt} {fs : List Stmt} {pos : Pos} {tb : WX → TS} {tf tfs : TS} {Wout : WX}
end
end L2

set_option maxHeartbeats 2000000
/-! groups of cells, lent or changed: what a method of an object with several parts that change promises -/
namespace Sim
open PySem PySem.Spec PyProof.Rows L2 Evl SlX
section
variable {K : PySem.W.Frag} {σ : L2.St} {G0 H0 G H G1 H1 G2 H2 W : Hp} {ls : List Addr} {cs cs0 : Cs} {l p C : Addr} {te ti tv : TE} {ta : TA} {α β γ κ ι ρ : Type} {R : Rep γ} {S : Rep β} {T : Rep γ} {B : Rep κ} {A : AR ι} {D : Ends} {tz : TS} {ns : List Str} {X : XK} {Q : VK}
/-! ### lent -/
/-! ### all of them read as data -/
/-! ### promises -/
variable {pa : α → Addr} {ci : α → ρ → Cs} {a : α} {r r' : ρ} {j : Nat} {ps : List Pd} {mi : Option ι} {i : ι} {me : Str}
/-! ### opened -/
/-! ### steps -/
end
end Sim

set_option maxHeartbeats 2000000
/-! sides that answer at any level of the thing asked -/
namespace Sim
open PySem PySem.Spec PyProof.Rows L2 Evl LamX LamF NdefX
section
variable (P : Program) (w : World) (K : PySem.W.Frag) (mg : Str → Option Value) (base : Heap)
end
end Sim

set_option maxHeartbeats 2000000
/-! more steps for objects with several parts that change -/
namespace Sim
open PySem PySem.Spec PyProof.Rows L2 Evl SlX
section
variable {K : PySem.W.Frag} {σ : L2.St} {G0 H0 G H G1 H1 G2 H2 W : Hp} {ls : List Addr} {cs cs0 cs2 : Cs} {l p C : Addr} {te ti tv : TE} {ta : TA} {α β γ κ ι ρ : Type} {R : Rep γ} {S : Rep β} {T : Rep γ} {B : Rep κ} {A : AR ι} {D : Ends} {tz tu : TS} {ns : List Str} {X : XK} {Q : VK} {g : TG}
end
end Sim

set_option maxHeartbeats 2000000
/-! a thing asked whose answering changes a group of cells -/
namespace Sim
open PySem PySem.Spec PyProof.Rows L2 Evl SlX LamX LamF NdefX
section
variable {P : Program} {w : World} {K : PySem.W.Frag} {mg : Str → Option Value} {base : Heap} {kl : Nat} {σ : L2.St} {G0 H0 G H G1 H1 G2 H2 W : Hp} {ls : List Addr} {cs cs0 cs2 : Cs} {l p C : Addr} {te ti tv : TE} {ta : TA} {α β γ κ ι ρ δ : Type} {R : Rep γ} {S : Rep β} {T : Rep γ} {B : Rep κ} {A : AR ι} {D : Ends} {tz tu : TS} {ns : List Str} {X : XK} {Q : VK}
variable {pa : α → δ} {ad : ι → δ} {ci : α → ρ → Cs} {a : α} {r r' : ρ} {i : ι}
end
end Sim

set_option maxHeartbeats 2000000
/-! groups of cells at the law's level -/
namespace Sim
open PySem PySem.Spec PyProof.Rows L2 Evl SlX
section
variable {K : PySem.W.Frag} {σ : L2.St} {G0 H0 G H G1 H1 G2 H2 W : Hp} {ls : List Addr} {cs cs0 cs2 fr tl : Cs} {l p C : Addr} {te ti tv : TE} {ta : TA} {α β γ κ ι ρ δ : Type} {R : Rep γ} {S : Rep β} {T : Rep γ} {B : Rep κ} {A : AR ι} {D : Ends} {tz tu : TS} {ns : List Str} {X : XK} {Q : VK} {c : Addr × CP}
end
end Sim
namespace Sim
open PySem PySem.Spec PyProof.Rows L2 Evl SlX
end Sim

set_option maxHeartbeats 2000000
/-! a comprehension over a dict's keys; append to a list that nobody keeps -/
namespace Sim
open PySem PySem.Spec PyProof.Rows L2 Evl SlX
section
variable {K : PySem.W.Frag} {σ : L2.St} {G0 H0 G H G1 H1 G2 H2 W : Hp} {ls : List Addr} {cs fr tl : Cs} {l p C a : Addr} {od : Obj} {ws : List (Key × V)} {te ti tv : TE} {ta : TA} {α β γ κ ι ρ δ : Type} [DecidableEq κ] {kf : κ → Key} {R : Rep γ} {S : Rep β} {T : Rep γ} {Sk : Rep κ} {D : Ends} {tz tu : TS} {ns : List Str} {X : XK} {Q : VK} {c : Addr × CP}
end
end Sim

/-! C() of a class without an own __init__; methods called with keywords or defaults, what is raised wished for -/
namespace L2
open PySem PySem.Spec PyProof.Rows
section
variable {X : Cx} {CX : CXT} {k n : Nat} {f C : Addr} {fd : FuncData} {ps ks : List Str} {sp : Sp} {E : St → XK} {x m : Str} {p pos apos : Pos} {e o : Expr} {es : List Expr} {kws : List Keyword} {ta : TE} {t tk : TA} {g : List Value → List Value → List Value} {gV : List V → List V → List V} {ds : List Value} {dvs : List V}
/-- a class whose __init__ is object's -/
structure MkB (K : PySem.W.Frag) (C : Addr) : Prop where
  makes : PySem.W.makesIn K C = true
  init : PySem.W.findIn K (.ref C) "__init__" = some (some (.builtin "object.__init__"))
  kp : PySem.W.keepIn K (.ref C) = true
/-! ### o.m(k = v, ..) -/
/-! ### o.m() with defaults -/
end
end L2
namespace Sim
open PySem PySem.Spec PyProof.Rows L2 Evl
section
variable {K : PySem.W.Frag} {σ : L2.St} {G0 H0 G H W : Hp} {ls : List Addr} {cs : Cs} {C p : Addr} {te : TE} {ta tk : TA} {Q : VK} {j n nk : Nat} {ns : List Str} {ps : List Pd} {me : Str}
end
end Sim

/-! rules: what is called with an object of several parts and tells a name -/
namespace Sim
open PySem PySem.Spec PyProof.Rows L2 Evl LamX LamF NdefX
section
variable (P : Program) (w : World) (K : PySem.W.Frag) (mg : Str → Option Value) (base : Heap) {α ρ τ : Type} (pa : α → Addr) (ci : α → ρ → Cs)
end
section
variable {P : Program} {w : World} {K : PySem.W.Frag} {mg : Str → Option Value} {base : Heap} {α ρ τ : Type} {pa : α → Addr} {ci : α → ρ → Cs} {k kk : Nat} {G0 H0 G H G2 H2 : Hp} {ls : List Addr} {cs : Cs} {f : Addr} {ct : τ → Cs} {an : τ → ρ → Option (Str × τ)} {σ : L2.St} {an0 : ρ → Option Str} {v : V}
end
end Sim

set_option maxHeartbeats 2000000
/-! an object with a list of its own, lent and walked by its own __iter__; made where it is told; a field that gets an object just made -/
namespace Sim
open PySem PySem.Spec PyProof.Rows L2 Evl SlX
section
variable {K : PySem.W.Frag} {σ : L2.St} {G0 H0 G H G1 H1 G2 H2 W : Hp} {ls : List Addr} {cs cs0 : Cs} {l p C C2 : Addr} {te : TE} {ta : TA} {α β γ κ ι ρ : Type} {R : Rep γ} {S : Rep β} {B : Rep κ} {A : AR ι} {D : Ends} {tz : TS} {ns : List Str} {X : XK} {Q : VK}
end
end Sim

/-! a step by a rule of the caller's -/
namespace Sim
open PySem PySem.Spec PyProof.Rows L2 Evl LamX LamF NdefX
section
variable {P : Program} {w : World} {K : PySem.W.Frag} {mg : Str → Option Value} {base : Heap} {α ρ τ : Type} {pa : α → Addr} {ci : α → ρ → Cs} {k kk : Nat} {G0 H0 G H G2 H2 : Hp} {ls : List Addr} {cs : Cs} {f : Addr} {ct : τ → Cs} {an : τ → ρ → Option (Str × τ)} {σ : L2.St} {an0 : ρ → Option Str} {v : V}
end
section
variable {D : List Addr} {G W : Hp} {σ : L2.St} {te : TE} {γ κ : Type} {R : Rep γ}
end
section
variable {α : Type} {σ : L2.St} {G0 H0 G H : Hp} {ls : List Addr} {cs : Cs} {C : Addr} {ns : List Str} {fl : α → List Pd} {x : α} {te : TE} {ta : TA} {X : XK} {Q : VK} {me : Str}
end
end Sim

/-! a dict that changes, read as data by a call whose answer is new lists of plain pairs -/
namespace Sim
open PySem PySem.Spec PyProof.Rows L2 Evl LamX LamF NdefX
section
variable {D : List Addr} {W Z G G0 H0 H : Hp} {ls : List Addr} {cs : Cs} {σ : L2.St} {te : TE} {α β κ : Type} {R : Rep α} {S : Rep β} {l : Addr} {i : Nat}
theorem Off.p0 {x : α × β} (hD : ∀ a ∈ D, ∀ vs, W a ≠ some (.tup vs)) (h1 : Off D W Z R x.1) (h2 : Off D W Z S x.2) : Off D W Z (rP R S) x := fun G v hZ hG ⟨a, p, q, e1, e2, e3, e4⟩ => by
  have hn : a ∉ D := fun z => hD a z _ (by rw [← hG a z]; exact e2)
  exact ⟨a, p, q, e1, rm_of e2 hn, h1 G p hZ hG e3, h2 G q hZ hG e4⟩
variable [DecidableEq κ] {kf : κ → Key} {d : List (κ × α)}
end
section
variable {σ : L2.St} {G W : Hp} {te : TE} {α β : Type} {R : Rep α} {S : Rep β}
end
end Sim

set_option maxHeartbeats 2000000
/-! texts laid in fields; list.count; a paper told by a run, as data -/
namespace PySem.W
open PySem PySem.Calls PyProof.Rows
open Builtin Builtin.Str Builtin.Int Builtin.Float
/-- a spec of a side and a width -/
structure XaSp (sp : PySem.Str) (k al n : Nat) (ty : String) : Prop where
  ne : (sp.length == 0) = false
  asc : ((sp.cps.toList.drop 1).any (· ≥ 128) || (sp.cps.getD 0 0 ≥ 128 && !([60, 62, 61, 94] : List Nat).contains (sp.cps.getD 1 0))) = false
  hp : parseFormatSpec sp.cps.toList ty k = .ok { align := al, width := some n }
  hb : (sp.cps.back? == some 0) = false
  hl : tooLong n = false
  hn : n ≤ 100000
  sz : sp.length ≤ sizeLine
end PySem.W
namespace L2
open PySem PySem.Spec PyProof.Rows PySem.W
section
variable {X : Cx} {e spec : Expr} {te : TE} {sp : Str} {n : Nat} {pos : Pos}
end
end L2
namespace Sim
open PySem PySem.Spec PyProof.Rows L2 Evl
/-! ### texts -/
section
variable {K : PySem.W.Frag} {σ : L2.St} {G0 H0 G H G2 H2 W : Hp} {ls : List Addr} {cs : Cs} {l : Addr} {ta : TA} {te ti tu : TE} {tl th : TO} {α β γ κ ι ρ : Type} {R : Rep α} {S : Rep β} {T : Rep γ} {B : Rep κ} {A : AR ι} {D : Ends} {tz : TS} {Q : VK} {X : XK}
/-! ### an item set, its value told with effects -/
/-! ### a paper told by a run, as data -/
/-! ### a def that reads a run and tells a new list -/
end
end Sim

set_option maxHeartbeats 2000000
namespace Sim
open PySem PySem.Spec PyProof.Rows L2 Evl
/-! ### a dict lent to a def that only reads it; a run whose cells move -/
section
variable {K : PySem.W.Frag} {σ : L2.St} {G0 H0 G H G2 H2 W : Hp} {ls : List Addr} {cs : Cs} {l : Addr} {ta : TA} {te ti tu : TE} {α β γ κ ι ρ δ : Type} {R : Rep α} {S : Rep β} {T : Rep γ} {B : Rep κ} {A : AR ι} {Q : VK} {X : XK}
end
end Sim

/-! a def that takes a new list over; records and texts in an exception's fields; mixed lists -/
namespace Sim
open PySem PySem.Spec PyProof.Rows L2 Evl
section
variable {K : PySem.W.Frag} {σ : L2.St} {G0 H0 G H G2 H2 W : Hp} {ls : List Addr} {cs : Cs} {α β γ δ ι : Type} {R : Rep α} {A : AR ι} {te : TE} {ta : TA} {D : Ends} {tz : TS}
theorem Wo.startO {l lo : Addr} {cp cq : CP} (wd : Wd G H [(l, cp), (lo, cq)]) : Wo G (del H lo) [l] G H [(l, cp), (lo, cq)] := by
  have ne : ∀ {a : Addr}, del H lo a ≠ none → a ≠ lo := fun h e => h (by rw [e, del_same])
  refine ⟨wd, ⟨Ex.refl _, fun a o h _ => ?_, fun a _ h => h, fun a h => ?_⟩, fun c hc => ?_⟩
  · rw [del_ne (ne (by rw [h]; simp))] at h
    exact h
  · rw [del_ne (ne h)] at h
    exact h
  · simp only [List.mem_cons, List.not_mem_nil, or_false] at hc
    rcases hc with rfl | rfl
    · exact .inl (List.mem_cons_self ..)
    · exact .inr del_same
/-- behind a call that changed the cells at these places and took the first one over -/
theorem Wo.callE {a a' : Cs} {js : List Nat} {lo : Addr} {cp : CP} (w : Wo G0 H0 ls G H ((lo, cp) :: cs)) (hl : H0 lo = none) (hn : js.Nodup) (hs : SelJ cs js a) (fr : Fr G (del H lo) G2 H2 (a.map (·.1))) (w2 : Wd G2 H2 a') (e : a'.map (·.1) = a.map (·.1)) : Wo G0 H0 ls G2 H2 (putJ cs js a') := by
  have hm := putJ_map hs e
  have nd := w.w.nd
  rw [List.map_cons] at nd
  obtain ⟨nlo, nd⟩ := List.nodup_cons.mp nd
  have el : js.length = a'.length := by
    rw [selJ_len hs]
    have := congrArg List.length e
    simpa using this.symm
  have key : ∀ c ∈ putJ cs js a', c ∈ a' ∨ (c ∈ cs ∧ c.1 ∉ a.map (·.1)) := fun c hc => by
    obtain ⟨n, hn'⟩ := List.getElem?_of_mem hc
    rcases putJ_at el hn' with z | ⟨z1, z2⟩
    · exact .inl z
    · refine .inr ⟨List.mem_of_getElem? z2, fun q => ?_⟩
      obtain ⟨d, hd, e1⟩ := List.mem_map.mp q
      obtain ⟨i, hi, e2⟩ := selJ_mem hs d hd
      have a1 : (cs.map (·.1))[n]? = some c.1 := by rw [List.getElem?_map, z2]; rfl
      have a2 : (cs.map (·.1))[i]? = some c.1 := by rw [List.getElem?_map, e2]; exact congrArg some e1
      have := nodup_ix nd a1 a2
      subst this
      exact z1 hi
  have nx : ∀ {x : Addr}, H0 x ≠ none → x ≠ lo := fun h e => h (by rw [e, hl])
  refine ⟨⟨w2.ex, fun c hc => ?_, by rw [hm]; exact nd⟩, ?_, fun c hc => ?_⟩
  · rcases key c hc with z | ⟨z1, z2⟩
    · exact w2.at_ c z
    · obtain ⟨h1, o, h2, h3⟩ := w.w.at_ c (List.mem_cons_of_mem _ z1)
      have hne : c.1 ≠ lo := fun z => nlo (List.mem_map.mpr ⟨c, z1, z⟩)
      exact ⟨fr.nw _ (by rw [del_ne hne, h2]; simp) h1, o, fr.fr _ _ (by rw [del_ne hne]; exact h2) z2, c.2.mono fr.gg h3⟩
  · refine ⟨w.f.gg.trans fr.gg, fun x o h1 h2 => ?_, fun x h1 h2 => fr.nw x (by rw [del_ne (nx h1)]; exact w.f.st x h1) (w.f.nw x h1 h2), fun x h => fr.st x (by rw [del_ne (nx h)]; exact w.f.st x h)⟩
    refine fr.fr x o (by rw [del_ne (nx (by rw [h1]; simp))]; exact w.f.fr x o h1 h2) fun hx => ?_
    obtain ⟨c, hc, rfl⟩ := List.mem_map.mp hx
    obtain ⟨_, _, e2⟩ := selJ_mem hs c hc
    rcases w.lo c (List.mem_cons_of_mem _ (List.mem_of_getElem? e2)) with z | z
    · exact h2 z
    · rw [z] at h1; cases h1
  · have : c.1 ∈ cs.map (·.1) := by rw [← hm]; exact List.mem_map_of_mem hc
    obtain ⟨d, hd, e1⟩ := List.mem_map.mp this
    have := w.lo d (List.mem_cons_of_mem _ hd)
    rw [e1] at this
    exact this
/-- changes one list and takes another one over -/
def PMo (A : AR ι) (ad lo : ι → Addr) (B : Rep β) (C : Rep γ) (R : Rep α) (f : List β → List γ → ι → Option (α × List β)) : Sp := fun vs H Q _ => ∃ G i ys zs x ys', A.r G vs i ∧ Wd G H [(ad i, cL B ys), (lo i, cL C zs)] ∧ f ys zs i = some (x, ys') ∧
  ∀ v H2 G2, Fr G (del H (lo i)) G2 H2 [ad i] → Wd G2 H2 [(ad i, cL B ys')] → R.r G2 v x → Q v H2
theorem c_pmo {ad lo : ι → Addr} {B : Rep β} {C : Rep γ} {f : List β → List γ → ι → Option (α × List β)} {vs : List V} {i : ι} {ys ys' : List β} {zs : List γ} {x : α} {Q : VK} {X : XK} (j : Nat) (w : Wo G0 H0 ls G H ((lo i, cL C zs) :: cs)) (hl : H0 (lo i) = none) (hj : cs[j]? = some (ad i, cL B ys)) (hv : A.r G vs i) (hz : f ys zs i = some (x, ys'))
    (k : ∀ v H2 G2, Wo G0 H0 ls G2 H2 (cs.set j (ad i, cL B ys')) → Ex G G2 → R.r G2 v x → Q v H2) : PMo A ad lo B C R f vs H Q X :=
  ⟨G, i, ys, zs, x, ys', hv, selJ_wd (js := [j + 1, 0]) w.w (by simp) ⟨by rw [List.getElem?_cons_succ]; exact hj, rfl, trivial⟩, hz, fun v H2 G2 fr w2 r => k v H2 G2 (w.callE hl (js := [j]) (a := [(ad i, cL B ys)]) (by simp) ⟨hj, trivial⟩ fr w2 rfl) fr.gg r⟩
/-- t[1:] of mixed data whose further parts are whole numbers -/
def tailD : PyData → Option (List Int)
  | .tuple (_ :: ds) => ds.mapM intD
  | _ => none
theorem dpI {H : Hp} : ∀ {ds : List PyData} {vs : List V} {xs : List Int}, DpAll K H vs ds → ds.mapM intD = some xs → Paired (fun v x => v = V.int x) vs xs
  | [], vs, xs, h, e => by
    cases h
    cases e
    exact .nil
  | d :: ds, vs, xs, h, e => by
    cases h with
    | cons h t =>
      rw [List.mapM_cons] at e
      obtain ⟨y, hy, e⟩ := bindS e
      obtain ⟨ys, hys, e⟩ := bindS e
      cases e
      refine .cons ?_ (dpI t hys)
      cases h with
      | int i => cases hy; rfl
      | _ => cases hy
theorem e_slDI {m : Option PyData} (h : E te σ G W (rD K) m) : E (tSl (rSlT K) te (tPart (tC (.int 1))) tNoPart) σ G W (rT rI) (m >>= fun d => tailD d) := fun z hz H e e' Q q => by
  obtain ⟨d, hd, hz⟩ := bindS hz
  refine h d hd H e e' _ fun v H1 G1 u r => ?_
  obtain ⟨h1, h2, h3⟩ := r
  cases h1 with
  | tup hq ha =>
    rename_i a xs ds
    cases ds with
    | nil => cases hz
    | cons d0 ds =>
      cases ha with
      | cons hv hvs =>
        rename_i v0 vs
        have hp := dpI hvs (show ds.mapM intD = some z from hz)
        refine ⟨1, rfl, a, _, rfl, ex_t u.gh hq, ?_, fun p np => ?_⟩
        · intro ⟨k, _⟩
          unfold HT.sIx at k
          simp at k
        · have ec : cutV (v0 :: vs) (some 1) none = vs := by
            unfold cutV HT.sIx
            simp
          rw [ec]
          exact q _ _ _ (u.trans (Up.lay u.gh np)) ⟨p, vs, rfl, .inl upd_same, hp⟩
  | _ => cases hz
end
end Sim

/-! a list of lists that are changed in place -/
namespace Sim
open PySem PySem.Spec PyProof.Rows L2 Evl
theorem Wo.prm {G0 H0 G H : Hp} {ls : List Addr} {cs cs' : Cs} (w : Wo G0 H0 ls G H cs) (h : cs'.Perm cs) : Wo G0 H0 ls G H cs' :=
  ⟨⟨w.w.ex, fun c hc => w.w.at_ c (h.mem_iff.mp hc), (h.map _).nodup_iff.mpr w.w.nd⟩, w.f, fun c hc => w.lo c (h.mem_iff.mp hc)⟩
section
variable {K : PySem.W.Frag} {σ : L2.St} {G0 H0 G H G2 H2 W : Hp} {ls : List Addr} {cs : Cs} {p : Addr} {α β γ δ ι : Type} {R : Rep α} {te ti tj : TE} {D : Ends} {tz : TS}
/-- the inner lists -/
def csI (R : Rep α) (as : List Addr) (rows : List (List α)) : Cs := (as.zip rows).map fun q => (q.1, cL R q.2)
/-- the list of lists at p, its items at as -/
def csR (R : Rep α) (p : Addr) (as : List Addr) (rows : List (List α)) : Cs := (p, cL rA as) :: csI R as rows
theorem csI_at {as : List Addr} {rows : List (List α)} {i : Nat} {a : Addr} {r : List α} (ha : as[i]? = some a) (hr : rows[i]? = some r) : (csI R as rows)[i]? = some (a, cL R r) := by
  unfold csI
  rw [List.getElem?_map, List.getElem?_zip_eq_some (z := (a, r)) |>.mpr ⟨ha, hr⟩]
  rfl
theorem csI_set {as : List Addr} {rows : List (List α)} : ∀ {i : Nat} {a : Addr} {r : List α}, as[i]? = some a → as.length = rows.length → (csI R as rows).set i (a, cL R r) = csI R as (rows.set i r) := by
  induction as generalizing rows with
  | nil => intro i a r h; simp at h
  | cons b as ih =>
    intro i a r h hl
    cases rows with
    | nil => simp at hl
    | cons r0 rows =>
      cases i with
      | zero =>
        have h : b = a := by simpa using h
        subst h
        rfl
      | succ i =>
        have h : as[i]? = some a := by simpa using h
        have := ih (rows := rows) (i := i) (a := a) (r := r) h (by simpa using hl)
        show (b, cL R r0) :: (csI R as rows).set i (a, cL R r) = (b, cL R r0) :: csI R as (rows.set i r)
        rw [this]
/-- a new list as one more item -/
theorem x_appR {i : Nat} {as : List Addr} {rows : List (List α)} {m : Option (List α)} {row : List α} (w : Wo G0 H0 ls G H (csR R p as rows)) (hl : as.length = rows.length) (hs : sz as.length = true) (hi : σ[i]? = some (some (.ref p))) (h : EL te σ G H R m) (hm : m = some row)
    (k : ∀ a H2 G2, H0 a = none → Wo G0 H0 ls G2 H2 (csR R p (as ++ [a]) (rows ++ [row])) → Ex G G2 → tz D σ H2) : tSeq (tDrop (tBM K "list" rAppend (tVar i) (tCons te tNil))) tz D σ H := by
  obtain ⟨_, o, h2, vs, rfl, h3⟩ := w.w.getAt (i := 0) rfl
  refine ⟨.ref p, hi, .inl ⟨rfl, vs, Or.inl (Or.inl h2)⟩, ?_⟩
  refine c_l (Q := fun x H1 => rAppend (.ref p) [x] H1 fun _ H3 => tz D σ H3) w h hm fun a H3 G3 na w3 e => ?_
  obtain ⟨_, o3, k2, vs3, rfl, k3⟩ := w3.w.getAt (i := 1) rfl
  refine ⟨p, vs3, .ref a, rfl, rfl, k2, by rw [k3.length]; exact sz_l hs, ?_⟩
  have w4 := w3.writeAt (i := 1) (cp' := cL rA (as ++ [a])) rfl ⟨vs3 ++ [.ref a], rfl, pr_app k3 (.cons (show rA.r G3 (.ref a) a from rfl) .nil)⟩
  refine k a _ _ na (w4.prm ?_) e
  show ((p, cL rA (as ++ [a])) :: csI R (as ++ [a]) (rows ++ [row])).Perm ((a, cL R row) :: (p, cL rA (as ++ [a])) :: csI R as rows)
  have : csI R (as ++ [a]) (rows ++ [row]) = csI R as rows ++ [(a, cL R row)] := by
    unfold csI
    rw [List.zip_append hl, List.map_append]
    rfl
  rw [this]
  refine ((List.perm_append_singleton _ _).cons _).trans (List.Perm.swap ..)
/-- all of it read at the heap itself -/
theorem pr_refs {H : Hp} {G : Hp} : ∀ {as : List Addr} {vs : List V} {rows : List (List α)}, Paired (rA.r G) vs as → as.length = rows.length → (∀ (i : Nat) (a : Addr) (r : List α), as[i]? = some a → rows[i]? = some r → (rL R).r H (.ref a) r) → Paired ((rL R).r H) vs rows
  | [], vs, rows, h, hl, _ => by
    cases h
    cases rows with
    | nil => exact .nil
    | cons _ _ => simp at hl
  | a :: as, vs, rows, h, hl, hr => by
    cases h with
    | cons h t =>
      cases rows with
      | nil => simp at hl
      | cons r rows =>
        rename_i v vs
        have h : v = .ref a := h
        subst h
        exact .cons (hr 0 a r rfl rfl) (pr_refs t (by simpa using hl) fun i b s h1 h2 => hr (i + 1) b s (by simpa using h1) (by simpa using h2))
theorem csR_r {as : List Addr} {rows : List (List α)} (w : Wo G0 H0 ls G H (csR R p as rows)) (hl : as.length = rows.length) : (rL (rL R)).r H (.ref p) rows := by
  obtain ⟨_, o, h2, vs, rfl, h3⟩ := w.w.getAt (i := 0) rfl
  refine ⟨p, vs, rfl, h2, pr_refs h3 hl fun i a r h1 h4 => ?_⟩
  exact w.rlAt (i := i + 1) (show (csI R as rows)[i]? = _ from csI_at h1 h4)
def ix2 (rows : List (List α)) (i j : Int) : Option α := atI rows i >>= fun r => atI r j
def set2 (rows : List (List α)) (i j : Int) (x : α) : Option (List (List α)) := ixN rows.length i >>= fun n => rows[n]? >>= fun r => setM r j x >>= fun r' => some (rows.set n r')
/-- rows[i][j] = x -/
theorem x_set2 {a : Nat} {as : List Addr} {rows ys : List (List α)} {m : Option α} {mi mj : Option Int} {x : α} {i j : Int} (w : Wo G0 H0 ls G H (csR R p as rows)) (hl : as.length = rows.length) (hi : σ[a]? = some (some (.ref p))) (h : E te σ G H R m) (hm : m = some x)
    (h1 : E ti σ G H rI mi) (hm1 : mi = some i) (h2 : E tj σ G H rI mj) (hm2 : mj = some j) (hy : set2 rows i j x = some ys) (k : ∀ H2 G2, Wo G0 H0 ls G2 H2 (csR R p as ys) → ys.length = rows.length → Ex G G2 → tz D σ H2) :
    tSeq (tAsg te (gSub (tOp (rIxL K) (tVar a) ti) tj rSetL)) tz D σ H :=
  h x hm H w.ex (Ex.refl _) (fun x H1 => gSub (tOp (rIxL K) (tVar a) ti) tj rSetL x σ H1 (tz D)) fun v H3 G3 u r => by
    have w3 := w.up u
    refine ⟨.ref p, hi, (h1.mono u.gg u.hh) i hm1 H3 w3.ex (Ex.refl _) _ fun v' H4 G4 u' r' => ?_⟩
    cases r'
    have w4 := w3.up u'
    obtain ⟨_, o, k2, vs, rfl, k3⟩ := w4.w.getAt (i := 0) rfl
    obtain ⟨n, hn, hy⟩ := bindS hy
    obtain ⟨row, hrow, hy⟩ := bindS hy
    obtain ⟨row', hrow', hy⟩ := bindS hy
    cases hy
    obtain ⟨b, hb⟩ : ∃ b, as[n]? = some b := by
      have := (List.getElem?_eq_some_iff.mp hrow).1
      exact ⟨_, List.getElem?_eq_getElem (by omega)⟩
    obtain ⟨vb, hvb, rb⟩ := pr_get k3 hb
    have rb : vb = .ref b := rb
    subst rb
    refine ⟨p, vs, i, .ref b, rfl, rfl, .inl (.inl k2), ?_, ?_⟩
    · show (ixN vs.length i).bind (fun j => vs[j]?) = _
      rw [k3.length, hl, hn]
      exact hvb
    · refine (h2.mono (u.gg.trans u'.gg) (u.hh.trans u'.hh)) j hm2 H4 w4.ex (Ex.refl _) _ fun v2 H5 G5 u5 r5 => ?_
      cases r5
      have w5 := w4.up u5
      have hc : (csR R p as rows)[n + 1]? = some (b, cL R row) := csI_at hb hrow
      obtain ⟨_, o5, q2, ws, rfl, q3⟩ := w5.w.getAt hc
      obtain ⟨l, hl2, e⟩ := bindS hrow'
      cases e
      refine ⟨b, ws, j, l, rfl, rfl, q2, by rw [q3.length]; exact hl2, k _ _ ?_ ?_ (u.gg.trans (u'.gg.trans u5.gg))⟩
      · have w6 := w5.writeAt (cp' := cL R (row.set l x)) hc ⟨_, rfl, pr_set (R.mono (u'.gg.trans u5.gg) r) l q3⟩
        have e6 : (csR R p as rows).set (n + 1) (b, cL R (row.set l x)) = csR R p as (rows.set n (row.set l x)) := by
          show (p, cL rA as) :: (csI R as rows).set n (b, cL R (row.set l x)) = _
          rw [csI_set hb hl]
          rfl
        rw [e6] at w6
        exact w6
      · simp
theorem frz_inner : ∀ {as : List Addr} {rows : List (List α)} {c : Addr × CP} {G : Hp}, Wo G0 H0 ls G H (c :: csI R as rows) → as.length = rows.length → (∀ a ∈ as, H0 a = none) → ∃ G2, Wo G0 H0 ls G2 H [c] ∧ Ex G G2 ∧ (∀ (i : Nat) (a : Addr) (r : List α), as[i]? = some a → rows[i]? = some r → (rL R).r G2 (.ref a) r)
  | [], rows, c, G, w, hl, _ => ⟨G, by simpa [csI] using w, Ex.refl _, fun i a r h => by simp at h⟩
  | b :: as, [], c, G, w, hl, _ => by simp at hl
  | b :: as, r0 :: rows, c, G, w, hl, hn => by
    obtain ⟨G1, w1, e1, h1⟩ := w.freezeAt (i := 1) (l := b) (R := R) (xs := r0) rfl (hn b (List.mem_cons_self ..))
    obtain ⟨G2, w2, e2, h2⟩ := frz_inner (as := as) (rows := rows) (c := c) (G := G1) w1 (by simpa using hl) fun a ha => hn a (List.mem_cons_of_mem _ ha)
    refine ⟨G2, w2, e1.trans e2, fun i a r q1 q2 => ?_⟩
    cases i with
    | zero =>
      have q1 : b = a := by simpa using q1
      have q2 : r0 = r := by simpa using q2
      subst q1 q2
      exact (rL R).mono e2 h1
    | succ i => exact h2 i a r (by simpa using q1) (by simpa using q2)
theorem Wo.frzR {as : List Addr} {rows : List (List α)} (w : Wo G0 H0 ls G H (csR R p as rows)) (hl : as.length = rows.length) (hp : H0 p = none) (hn : ∀ a ∈ as, H0 a = none) : ∃ G2, Wo G0 H0 ls G2 H [] ∧ Ex G G2 ∧ (rL (rL R)).r G2 (.ref p) rows := by
  obtain ⟨G1, w1, e1, h1⟩ := frz_inner w hl hn
  have w2 : Wo G0 H0 ls G1 H [(p, cL (rL R) rows)] := by
    refine ⟨⟨w1.w.ex, fun c hc => ?_, w1.w.nd⟩, w1.f, fun c hc => ?_⟩
    · cases List.mem_singleton.mp hc
      obtain ⟨k1, o, k2, vs, rfl, k3⟩ := w1.w.at_ _ (List.mem_cons_self ..)
      exact ⟨k1, _, k2, vs, rfl, pr_refs k3 hl h1⟩
    · cases List.mem_singleton.mp hc
      exact w1.lo (p, cL rA as) (List.mem_cons_self ..)
  obtain ⟨G2, w3, e2, h2⟩ := w2.freezeAt (i := 0) (l := p) (R := rL R) (xs := rows) rfl hp
  exact ⟨G2, w3, e1.trans e2, h2⟩
/-- a pair of alike parts, read as a tuple -/
theorem rPT {v : V} {x : α × α} (h : (rP R R).r G v x) : (rT R).r G v [x.1, x.2] := by
  obtain ⟨a, y, z, h1, h2, h3, h4⟩ := h
  exact ⟨a, [y, z], h1, .inl h2, .cons h3 (.cons h4 .nil)⟩
end
end Sim

set_option maxHeartbeats 40000000
set_option synthInstance.maxSize 4000
set_option synthInstance.maxHeartbeats 1000000
namespace My
open PySem PySem.Spec PyProof.Rows L2 Sim
theorem be1 {α β : Type} {x : Option α} {f : α → Option β} : (x >>= f) = Option.bind x f := Eq.trans (show (x >>= f) = Option.bind x f from rfl) (Eq.refl _)
theorem bs1 {α β : Type} {a : α} {f : α → Option β} : Option.bind (some a) f = f a := Eq.trans (Option.bind_some a f) (Eq.refl _)
theorem bifT {α : Type} {a b c : α} (h : (bif true then a else b) = c) : a = c := h
theorem bifF {α : Type} {a b c : α} (h : (bif false then a else b) = c) : b = c := h
theorem elimL {α β γ : Type} {f : α → γ} {g : β → γ} {a : α} {c : γ} (h : Sum.elim f g (Sum.inl a) = c) : f a = c := h
theorem ba1 {α β γ : Type} {x : Option α} {f : α → Option β} {g : β → Option γ} : Option.bind (Option.bind x f) g = Option.bind x fun y => Option.bind (f y) g := Option.bind_assoc ..
structure m_Order where
  f_above : (List (List Bool))
  f_joins : (List (List (Option Int)))
  f_meets : (List (List (Option Int)))
  f_members : (List Int)
  f_height : Int
deriving DecidableEq
abbrev ns_Order : List Str := ["_above", "_joins", "_meets", "_members", "_height"]
def fl_Order (K : PySem.W.Frag) (o : m_Order) : List Pd := [pd (rL (rL rB)) o.f_above, pd (rL (rL (rO rI))) o.f_joins, pd (rL (rL (rO rI))) o.f_meets, pd (rL rI) o.f_members, pd rI o.f_height]
abbrev r_Order (K : PySem.W.Frag) : Rep m_Order := rObj (He.ga K "Order") ns_Order (fl_Order K)
section
variable {w : World} {K : PySem.W.Frag} {mg : Str → Option Value} {base : Heap}
theorem fr_super (T : Tx K mg) : mg "super" = none := T.free 29 rfl
theorem fr_range (T : Tx K mg) : mg "range" = none := T.free 30 rfl
theorem fr_len (T : Tx K mg) : mg "len" = none := T.free 31 rfl
theorem fr_max (T : Tx K mg) : mg "max" = none := T.free 32 rfl
theorem fr_min (T : Tx K mg) : mg "min" = none := T.free 33 rfl
theorem fr_abs (T : Tx K mg) : mg "abs" = none := T.free 34 rfl
theorem fr_int (T : Tx K mg) : mg "int" = none := T.free 35 rfl
theorem fr_list (T : Tx K mg) : mg "list" = none := T.free 36 rfl
theorem fr_sorted (T : Tx K mg) : mg "sorted" = none := T.free 37 rfl
theorem fr_isinstance (T : Tx K mg) : mg "isinstance" = none := T.free 38 rfl
theorem fr_bool (T : Tx K mg) : mg "bool" = none := T.free 39 rfl
theorem fr_all (T : Tx K mg) : mg "all" = none := T.free 40 rfl
theorem fr_any (T : Tx K mg) : mg "any" = none := T.free 41 rfl
theorem fr_ValueError (T : Tx K mg) : mg "ValueError" = none := T.free 42 rfl
theorem ns_BadSize : NdefX.NScope ["self", "size", "__class__"] ["self", "size"] ["__class__"] (defScope s_BadSize___init__) := NdefX.nscope_by (by decide +kernel)
theorem known_BadSize (T : Tx K mg) : XcK P K mg x_BadSize := XcD.known (T.xc 0 rfl).1 (T.xc 0 rfl).2 (fr_super T) (by decide +kernel) (by decide +kernel) (by decide +kernel) rfl (by decide +kernel)
theorem okx_BadSize (T : Tx K mg) : ∃ fd, Binds K fd ["self", "size"] [] ∧ FnOk P w K mg base CX0 1 (xcAd K "BadSize") fd ["self", "size"] (spX (He.ga K "BadSize") ["size"]) := by
  obtain ⟨fd, cc, c, Z⟩ := (known_BadSize T).ex
  refine ⟨fd, ?_, ?_⟩
  · obtain ⟨oc, od, osl, kV, doc, pm, an, ct, rfl, lk⟩ := Z.lk
    exact .all fun us hl => match us, hl with | [_, _], _ => rfl
  · refine xinit (F := ⟨"__init__", x_BadSize.qual, x_BadSize.params, x_BadSize.body, x_BadSize.scope, [("__class__", cc)], c⟩) (fi := [("size", 1)]) ns_BadSize Z rfl (fun _ => rfl) (fun _ => rfl) (fun f hf => ?_) rfl (fun a ws h => ?_) (fun A outer s H E => ?_)
    · simp only [List.mem_cons, List.not_mem_nil, or_false] at hf
      rcases hf with rfl
      · exact noB_ok (T.mo 37 rfl)
    · match ws, h with
      | [y1], _ => exact ⟨("size", 1, y1), [], by simp, rfl, rfl, by simp [NdefX.startF]⟩
    · exact pss_cons (ps_ost (pe_var (i := 0) rfl (Or.inl rfl)) (pe_var (i := 1) rfl (Or.inl rfl))) (pss_nil)
theorem ns_NotElement : NdefX.NScope ["self", "value", "__class__"] ["self", "value"] ["__class__"] (defScope s_NotElement___init__) := NdefX.nscope_by (by decide +kernel)
theorem known_NotElement (T : Tx K mg) : XcK P K mg x_NotElement := XcD.known (T.xc 1 rfl).1 (T.xc 1 rfl).2 (fr_super T) (by decide +kernel) (by decide +kernel) (by decide +kernel) rfl (by decide +kernel)
theorem okx_NotElement (T : Tx K mg) : ∃ fd, Binds K fd ["self", "value"] [] ∧ FnOk P w K mg base CX0 1 (xcAd K "NotElement") fd ["self", "value"] (spX (He.ga K "NotElement") ["value"]) := by
  obtain ⟨fd, cc, c, Z⟩ := (known_NotElement T).ex
  refine ⟨fd, ?_, ?_⟩
  · obtain ⟨oc, od, osl, kV, doc, pm, an, ct, rfl, lk⟩ := Z.lk
    exact .all fun us hl => match us, hl with | [_, _], _ => rfl
  · refine xinit (F := ⟨"__init__", x_NotElement.qual, x_NotElement.params, x_NotElement.body, x_NotElement.scope, [("__class__", cc)], c⟩) (fi := [("value", 1)]) ns_NotElement Z rfl (fun _ => rfl) (fun _ => rfl) (fun f hf => ?_) rfl (fun a ws h => ?_) (fun A outer s H E => ?_)
    · simp only [List.mem_cons, List.not_mem_nil, or_false] at hf
      rcases hf with rfl
      · exact noB_ok (T.mo 38 rfl)
    · match ws, h with
      | [y1], _ => exact ⟨("value", 1, y1), [], by simp, rfl, rfl, by simp [NdefX.startF]⟩
    · exact pss_cons (ps_ost (pe_var (i := 0) rfl (Or.inl rfl)) (pe_var (i := 1) rfl (Or.inl rfl))) (pss_nil)
theorem ns_Ring : NdefX.NScope ["self", "first", "second", "__class__"] ["self", "first", "second"] ["__class__"] (defScope s_Ring___init__) := NdefX.nscope_by (by decide +kernel)
theorem known_Ring (T : Tx K mg) : XcK P K mg x_Ring := XcD.known (T.xc 2 rfl).1 (T.xc 2 rfl).2 (fr_super T) (by decide +kernel) (by decide +kernel) (by decide +kernel) rfl (by decide +kernel)
theorem okx_Ring (T : Tx K mg) : ∃ fd, Binds K fd ["self", "first", "second"] [] ∧ FnOk P w K mg base CX0 1 (xcAd K "Ring") fd ["self", "first", "second"] (spX (He.ga K "Ring") ["first", "second"]) := by
  obtain ⟨fd, cc, c, Z⟩ := (known_Ring T).ex
  refine ⟨fd, ?_, ?_⟩
  · obtain ⟨oc, od, osl, kV, doc, pm, an, ct, rfl, lk⟩ := Z.lk
    exact .all fun us hl => match us, hl with | [_, _, _], _ => rfl
  · refine xinit (F := ⟨"__init__", x_Ring.qual, x_Ring.params, x_Ring.body, x_Ring.scope, [("__class__", cc)], c⟩) (fi := [("first", 1), ("second", 2)]) ns_Ring Z rfl (fun _ => rfl) (fun _ => rfl) (fun f hf => ?_) rfl (fun a ws h => ?_) (fun A outer s H E => ?_)
    · simp only [List.mem_cons, List.not_mem_nil, or_false] at hf
      rcases hf with rfl | rfl
      · exact noB_ok (T.mo 39 rfl)
      · exact noB_ok (T.mo 40 rfl)
    · match ws, h with
      | [y1, y2], _ => exact ⟨("first", 1, y1), [("second", 2, y2)], by simp, rfl, rfl, by simp [NdefX.startF]⟩
    · exact pss_cons (ps_ost (pe_var (i := 0) rfl (Or.inl rfl)) (pe_var (i := 1) rfl (Or.inl rfl))) (pss_cons (ps_ost (pe_var (i := 0) rfl (Or.inl rfl)) (pe_var (i := 2) rfl (Or.inl rfl))) (pss_nil))
theorem ns_NoJoin : NdefX.NScope ["self", "first", "second", "__class__"] ["self", "first", "second"] ["__class__"] (defScope s_NoJoin___init__) := NdefX.nscope_by (by decide +kernel)
theorem known_NoJoin (T : Tx K mg) : XcK P K mg x_NoJoin := XcD.known (T.xc 3 rfl).1 (T.xc 3 rfl).2 (fr_super T) (by decide +kernel) (by decide +kernel) (by decide +kernel) rfl (by decide +kernel)
theorem okx_NoJoin (T : Tx K mg) : ∃ fd, Binds K fd ["self", "first", "second"] [] ∧ FnOk P w K mg base CX0 1 (xcAd K "NoJoin") fd ["self", "first", "second"] (spX (He.ga K "NoJoin") ["first", "second"]) := by
  obtain ⟨fd, cc, c, Z⟩ := (known_NoJoin T).ex
  refine ⟨fd, ?_, ?_⟩
  · obtain ⟨oc, od, osl, kV, doc, pm, an, ct, rfl, lk⟩ := Z.lk
    exact .all fun us hl => match us, hl with | [_, _, _], _ => rfl
  · refine xinit (F := ⟨"__init__", x_NoJoin.qual, x_NoJoin.params, x_NoJoin.body, x_NoJoin.scope, [("__class__", cc)], c⟩) (fi := [("first", 1), ("second", 2)]) ns_NoJoin Z rfl (fun _ => rfl) (fun _ => rfl) (fun f hf => ?_) rfl (fun a ws h => ?_) (fun A outer s H E => ?_)
    · simp only [List.mem_cons, List.not_mem_nil, or_false] at hf
      rcases hf with rfl | rfl
      · exact noB_ok (T.mo 41 rfl)
      · exact noB_ok (T.mo 42 rfl)
    · match ws, h with
      | [y1, y2], _ => exact ⟨("first", 1, y1), [("second", 2, y2)], by simp, rfl, rfl, by simp [NdefX.startF]⟩
    · exact pss_cons (ps_ost (pe_var (i := 0) rfl (Or.inl rfl)) (pe_var (i := 1) rfl (Or.inl rfl))) (pss_cons (ps_ost (pe_var (i := 0) rfl (Or.inl rfl)) (pe_var (i := 2) rfl (Or.inl rfl))) (pss_nil))
theorem ns_NoMeet : NdefX.NScope ["self", "first", "second", "__class__"] ["self", "first", "second"] ["__class__"] (defScope s_NoMeet___init__) := NdefX.nscope_by (by decide +kernel)
theorem known_NoMeet (T : Tx K mg) : XcK P K mg x_NoMeet := XcD.known (T.xc 4 rfl).1 (T.xc 4 rfl).2 (fr_super T) (by decide +kernel) (by decide +kernel) (by decide +kernel) rfl (by decide +kernel)
theorem okx_NoMeet (T : Tx K mg) : ∃ fd, Binds K fd ["self", "first", "second"] [] ∧ FnOk P w K mg base CX0 1 (xcAd K "NoMeet") fd ["self", "first", "second"] (spX (He.ga K "NoMeet") ["first", "second"]) := by
  obtain ⟨fd, cc, c, Z⟩ := (known_NoMeet T).ex
  refine ⟨fd, ?_, ?_⟩
  · obtain ⟨oc, od, osl, kV, doc, pm, an, ct, rfl, lk⟩ := Z.lk
    exact .all fun us hl => match us, hl with | [_, _, _], _ => rfl
  · refine xinit (F := ⟨"__init__", x_NoMeet.qual, x_NoMeet.params, x_NoMeet.body, x_NoMeet.scope, [("__class__", cc)], c⟩) (fi := [("first", 1), ("second", 2)]) ns_NoMeet Z rfl (fun _ => rfl) (fun _ => rfl) (fun f hf => ?_) rfl (fun a ws h => ?_) (fun A outer s H E => ?_)
    · simp only [List.mem_cons, List.not_mem_nil, or_false] at hf
      rcases hf with rfl | rfl
      · exact noB_ok (T.mo 43 rfl)
      · exact noB_ok (T.mo 44 rfl)
    · match ws, h with
      | [y1, y2], _ => exact ⟨("first", 1, y1), [("second", 2, y2)], by simp, rfl, rfl, by simp [NdefX.startF]⟩
    · exact pss_cons (ps_ost (pe_var (i := 0) rfl (Or.inl rfl)) (pe_var (i := 1) rfl (Or.inl rfl))) (pss_cons (ps_ost (pe_var (i := 0) rfl (Or.inl rfl)) (pe_var (i := 2) rfl (Or.inl rfl))) (pss_nil))
def m_closure_b1 (size0 : Int) (x34 : (Int × Int)) (s23 : (List Bool)) : Option (List Bool) :=
  (some true >>= fun a47 => (mulM x34.1 size0 >>= fun t46 => some (t46 + x34.2)) >>= fun i48 => setM s23 i48 a47 >>= fun cells_49 => some (cells_49))
def m_closure_b2 (size0 : Int) (x117 : Int) (s103 : (List (List Bool))) : Option (List (List Bool)) :=
  ((rngM 0 size0 >>= fun xs138 => mapS (fun x124 => (rngM 0 size0 >>= fun xs137 => mapS (fun x130 => (orO ((atI s103 x124 >>= fun t133 => atI t133 x130)) ((andO ((atI s103 x124 >>= fun t135 => atI t135 x117)) ((atI s103 x117 >>= fun t136 => atI t136 x130)))))) xs137)) xs138) >>= fun rows_139 => some (rows_139))
def m_closure (size0 : Int) (pairs0 : (List (Int × Int))) : Option (List (List Bool)) :=
  ((mulM size0 size0 >>= fun t8 => (rngM 0 t8 >>= fun xs7 => mapS (fun x4 => some false) xs7)) >>= fun cells_9 => (some pairs0 >>= fun xs18 => forS (m_closure_b1 size0) xs18 cells_9 >>= fun s23 => ((rngM 0 size0 >>= fun xs85 => mapS (fun x73 => (rngM 0 size0 >>= fun xs84 => mapS (fun x79 => (orO (some (x73 == x79)) (((mulM x73 size0 >>= fun t82 => some (t82 + x79)) >>= fun t83 => atI s23 t83)))) xs84)) xs85) >>= fun rows_86 => (some size0 >>= fun n96 => rngM 0 n96 >>= fun xs98 => forS (m_closure_b2 size0) xs98 rows_86 >>= fun s103 => (some s103 >>= fun a157 => some a157)))))
theorem sc_closure : FnScope ["size", "pairs", "cells", "rows", "m", "low", "high", "_", "a", "b"] ["size", "pairs"] (defScope s_closure) := ⟨rfl, rfl, rfl, by decide +kernel, rfl, by decide +kernel, by decide +kernel⟩
theorem ok_closure (T : Tx K mg) : Fk P w K mg base CX0 1 "closure" ["size", "pairs"] (PF (aC rI (aC (rL (rP rI rI)) aN)) (rL (rL rB)) (fun i => m_closure i.1 i.2.1)) := by
  obtain ⟨fd, F⟩ := T.def_ 0 rfl
  have nd := sc_closure.nd
  refine fk_mk T.toTx (x := "closure") (T.glo 7 rfl) F (fun _ _ _ _ _ _ us hl => match us, hl with | [_, _], _ => rfl) (F.ok sc_closure (fun vs H Q E h => ?_) (fun cdv A outer s H vs Q E hr h => ?_))
  · obtain ⟨G, ⟨size0, pairs0, ⟨⟩⟩, r, e0, ⟨vsize0, _, rfl, hsize0, vpairs0, _, rfl, hpairs0, rfl⟩, h, k⟩ := h
    rfl
  · obtain ⟨G, ⟨size0, pairs0, ⟨⟩⟩, r, e0, ⟨vsize0, _, rfl, hsize0, vpairs0, _, rfl, hpairs0, rfl⟩, h, k⟩ := h
    cases hsize0
    have w0 := Wo.start e0
    have h : m_closure size0 pairs0 = some r := h
    unfold m_closure at h
    refine ⟨_, PSs.nox (pss_cons (ps_set (i := 2) nd rfl (Or.inr rfl) (pe_lc (own := [("_", 7)]) (by rfl) nd (pi_range1 (by rfl) (fr_range T) (pa_cons (pe_op op_mul (pv 0) (pv 0)) pa_nil)) (blkOk_by (by kernel_rfl)) (fun _ _ _ _ _ => pg_name (i := 7) nd rfl (by first | exact Or.inl rfl | exact Or.inr rfl)) (fun _ _ _ _ _ => pts_nil) (fun _ _ _ _ _ => pe_bl))) (pss_cons (ps_for PassesOwn.never rfl (pi_list (pv 1)) (pg_tup (by rfl) (pgs_cons (pg_name (i := 5) nd rfl (by first | exact Or.inl rfl | exact Or.inr rfl)) (pgs_cons (pg_name (i := 6) nd rfl (by first | exact Or.inl rfl | exact Or.inr rfl)) pgs_nil))) (pss_cons (ps_asg pe_bl (pg_sub (pv 2) (pe_op op_add (pe_op op_mul (pv 5) (pv 0)) (pv 6)) set_list)) pss_nil)) (pss_cons (ps_set (i := 3) nd rfl (Or.inr rfl) (pe_lc (own := [("a", 8)]) (by rfl) nd (pi_range1 (by rfl) (fr_range T) (pa_cons (pv 0) pa_nil)) (blkOk_by (by kernel_rfl)) (fun _ _ _ _ _ => pg_name (i := 8) nd rfl (by first | exact Or.inl rfl | exact Or.inr rfl)) (fun _ _ _ _ _ => pts_nil) (fun _ _ _ _ _ => (pe_lc (own := [("b", 9)]) (by rfl) nd (pi_range1 (by rfl) (fr_range T) (pa_cons (pv 0) pa_nil)) (blkOk_by (by kernel_rfl)) (fun _ _ _ _ _ => pg_name (i := 9) nd rfl (by first | exact Or.inl rfl | exact Or.inr rfl)) (fun _ _ _ _ _ => pts_nil) (fun _ _ _ _ _ => (pe_or (pe_cmpR op_eq (pv 8) (pv 9) (nomark _)) (pe_one (pe_ix (r := rIxL K) ix_list (pv 2) (pe_op op_add (pe_op op_mul (pv 8) (pv 0)) (pv 9)) (fun _ _ => rfl))))))))) (pss_cons (ps_for PassesOwn.never rfl (pi_range1 (by rfl) (fr_range T) (pa_cons (pv 0) pa_nil)) (pg_name (i := 4) nd rfl (Or.inr rfl)) (pss_cons (ps_set (i := 3) nd rfl (Or.inr rfl) (pe_lc (own := [("a", 8)]) (by rfl) nd (pi_range1 (by rfl) (fr_range T) (pa_cons (pv 0) pa_nil)) (blkOk_by (by kernel_rfl)) (fun _ _ _ _ _ => pg_name (i := 8) nd rfl (by first | exact Or.inl rfl | exact Or.inr rfl)) (fun _ _ _ _ _ => pts_nil) (fun _ _ _ _ _ => (pe_lc (own := [("b", 9)]) (by rfl) nd (pi_range1 (by rfl) (fr_range T) (pa_cons (pv 0) pa_nil)) (blkOk_by (by kernel_rfl)) (fun _ _ _ _ _ => pg_name (i := 9) nd rfl (by first | exact Or.inl rfl | exact Or.inr rfl)) (fun _ _ _ _ _ => pts_nil) (fun _ _ _ _ _ => (pe_or (pe_ix (r := rIxL K) ix_list (pe_ix (r := rIxL K) ix_list (pv 3) (pv 8) (fun _ _ => rfl)) (pv 9) (fun _ _ => rfl)) (pe_one (pe_and (pe_ix (r := rIxL K) ix_list (pe_ix (r := rIxL K) ix_list (pv 3) (pv 8) (fun _ _ => rfl)) (pv 4) (fun _ _ => rfl)) (pe_one (pe_ix (r := rIxL K) ix_list (pe_ix (r := rIxL K) ix_list (pv 3) (pv 4) (fun _ _ => rfl)) (pv 9) (fun _ _ => rfl))))))))))) pss_nil)) (pss_cons (ps_ret (pv 3)) pss_nil))))), ?_⟩
    obtain ⟨cells_9, hx10, h⟩ := bindS h
    refine x_setL w0 (el_mapR (el_lcR (j := 7) (ea_cons (e_op rr_mul (e_var (R := rI) (x := size0) rfl rfl) (e_var (R := rI) (x := size0) rfl rfl)) ea_nil) (fun _ => rfl) (fun _ _ _ _ _ _ => et_yes) (fun x4 G5 W6 eG1 eW2 eX3 => e_bl))) (by first | (simp only [be1, bs1, ba1] at hx10 ⊢; exact hx10) | exact hx10) ?_
    intro p13 H11 G14 n15 w12 e16
    have h17 := Rep.mono _ e16 hpairs0
    obtain ⟨xs18, hx19, h⟩ := bindS h
    obtain ⟨t21, hx22, h⟩ := bindS h
    refine x_forL w12 (e_var (R := (rL (rP rI rI))) (x := pairs0) rfl h17) hx19 (fun i G' H' σ' => ∃ s23 : (List Bool), ∃ u24 : Option V, ∃ u25 : Option V, Wo G H [] G' H' [(p13, cL rB s23)] ∧ Evl.Ex G14 G' ∧ σ' = [some (V.int size0), some vpairs0, some (V.ref p13), none, none, u25, u24, none, none, none] ∧ forS (m_closure_b1 size0) (xs18.drop i) s23 = some t21) (fun _ _ _ _ ⟨_, _, _, w, _⟩ => w.ex) ?_ ?_ ?_
    · intro G' H' w' e'
      exact ⟨cells_9, (none), (none), w', e', rfl, hx22⟩
    · rintro G36 e37 i33 x34 v38 σ' G29 H32 hx35 e40 ⟨s23, u24, u25, w30, e31, rfl, hm27⟩ r39
      obtain ⟨q28, hb26, hm27⟩ := forS_at hx35 hm27
      have h41 := Rep.mono _ e31 h17
      refine g_pair (i := 5) (j := 6) r39 w30.ex ?_
      intro v42 v43 r44 r45
      cases r44
      cases r45
      unfold m_closure_b1 at hb26
      obtain ⟨a47, hx50, hb26⟩ := bindS hb26
      obtain ⟨i48, hx51, hb26⟩ := bindS hb26
      obtain ⟨cells_49, hx52, hb26⟩ := bindS hb26
      refine x_setIx (j := 0) w30 rfl rfl e_bl (by first | (simp only [be1, bs1, ba1] at hx50 ⊢; exact hx50) | exact hx50) (e_op rr_add (e_op rr_mul (e_var (R := rI) (x := x34.1) rfl rfl) (e_var (R := rI) (x := size0) rfl rfl)) (e_var (R := rI) (x := x34.2) rfl rfl)) (by first | (simp only [be1, bs1, ba1] at hx51 ⊢; exact hx51) | exact hx51) hx52 ?_
      intro H53 G54 w55 e56
      have h57 := Rep.mono _ e56 h41
      have w55 : Wo G H [] G54 H53 [(p13, cL rB cells_49)] := w55
      refine x_next ?_
      have hb26 : cells_49 = q28 := Option.some.inj hb26
      subst hb26
      exact ⟨G54, (e40.trans e56), cells_49, (some (V.int x34.2)), (some (V.int x34.1)), w55, (e31.trans e56), rfl, hm27⟩
    · rintro σ' G58 H61 e62 ⟨s23, u24, u25, w59, e60, rfl, hm27⟩
      have hm27 := forS_end hm27
      subst hm27
      have h64 := Rep.mono _ e60 h17
      obtain ⟨G65, w66, e67, h68⟩ := w59.freezeAt (i := 0) rfl n15
      have h69 := Rep.mono _ e67 h64
      have w66 : Wo G H [] G65 H61 [] := w66
      obtain ⟨rows_86, hx87, h⟩ := bindS h
      refine x_set w66 (EL.e (el_mapR (el_lcR (j := 8) (ea_cons (e_var (R := rI) (x := size0) rfl rfl) ea_nil) (fun _ => rfl) (fun _ _ _ _ _ _ => et_yes) (fun x73 G74 W75 eG70 eW71 eX72 => (EL.e (el_mapR (el_lcR (j := 9) (ea_cons (e_var (R := rI) (x := size0) rfl rfl) ea_nil) (fun _ => rfl) (fun _ _ _ _ _ _ => et_yes) (fun x79 G80 W81 eG76 eW77 eX78 => (e_orV (e_op rr_eqI (e_var (R := rI) (x := x73) rfl rfl) (e_var (R := rI) (x := x79) rfl rfl)) (e_op rr_ixL (e_var (R := (rL rB)) (x := s23) rfl (Rep.mono _ eG76 (Rep.mono _ eG70 h68))) (e_op rr_add (e_op rr_mul (e_var (R := rI) (x := x73) rfl rfl) (e_var (R := rI) (x := size0) rfl rfl)) (e_var (R := rI) (x := x79) rfl rfl)))))))))))) (by first | (simp only [be1, bs1, ba1] at hx87 ⊢; exact hx87) | exact hx87) ?_
      intro v90 H88 G91 w89 e92 h93
      have h94 := Rep.mono _ e92 h69
      have h95 := Rep.mono _ e92 h68
      obtain ⟨n96, hx97, h⟩ := bindS h
      obtain ⟨xs98, hx99, h⟩ := bindS h
      obtain ⟨t101, hx102, h⟩ := bindS h
      refine x_forR w89 (ea_cons (Sim.E.is (e_var (R := rI) (x := size0) rfl rfl) hx97) ea_nil) rfl hx99 (fun i G' H' σ' => ∃ s103 : (List (List Bool)), ∃ v104 : V, ∃ u106 : Option V, ∃ u107 : Option V, ∃ u108 : Option V, Wo G H [] G' H' [] ∧ Evl.Ex G91 G' ∧ σ' = [some (V.int size0), some vpairs0, some (V.ref p13), some v104, u108, u25, u24, none, u106, u107] ∧ (rL (rL rB)).r G' v104 s103 ∧ forS (m_closure_b2 size0) (xs98.drop i) s103 = some t101) ?_ ?_ ?_
      · intro G' H' w' e'
        exact ⟨rows_86, v90, (none), (none), (none), w', e', rfl, (Rep.mono _ e' h93), hx102⟩
      · rintro i116 x117 σ' G112 H115 hx118 ⟨s103, v104, u106, u107, u108, w113, e114, rfl, h105, hm110⟩
        obtain ⟨q111, hb109, hm110⟩ := forS_at hx118 hm110
        have h119 := Rep.mono _ e114 h94
        have h120 := Rep.mono _ e114 h95
        refine g_name ?_
        unfold m_closure_b2 at hb109
        obtain ⟨rows_139, hx140, hb109⟩ := bindS hb109
        refine x_set w113 (EL.e (el_mapR (el_lcR (j := 8) (ea_cons (e_var (R := rI) (x := size0) rfl rfl) ea_nil) (fun _ => rfl) (fun _ _ _ _ _ _ => et_yes) (fun x124 G125 W126 eG121 eW122 eX123 => (EL.e (el_mapR (el_lcR (j := 9) (ea_cons (e_var (R := rI) (x := size0) rfl rfl) ea_nil) (fun _ => rfl) (fun _ _ _ _ _ _ => et_yes) (fun x130 G131 W132 eG127 eW128 eX129 => (e_orV (e_op rr_ixL (e_op rr_ixL (e_var (R := (rL (rL rB))) (x := s103) rfl (Rep.mono _ eG127 (Rep.mono _ eG121 h105))) (e_var (R := rI) (x := x124) rfl rfl)) (e_var (R := rI) (x := x130) rfl rfl)) (e_andV (e_op rr_ixL (e_op rr_ixL (e_var (R := (rL (rL rB))) (x := s103) rfl (Rep.mono _ eG127 (Rep.mono _ eG121 h105))) (e_var (R := rI) (x := x124) rfl rfl)) (e_var (R := rI) (x := x117) rfl rfl)) (e_op rr_ixL (e_op rr_ixL (e_var (R := (rL (rL rB))) (x := s103) rfl (Rep.mono _ eG127 (Rep.mono _ eG121 h105))) (e_var (R := rI) (x := x117) rfl rfl)) (e_var (R := rI) (x := x130) rfl rfl)))))))))))) (by first | (simp only [be1, bs1, ba1] at hx140 ⊢; exact hx140) | exact hx140) ?_
        intro v143 H141 G144 w142 e145 h146
        have h147 := Rep.mono _ e145 h119
        have h148 := Rep.mono _ e145 h120
        have h149 := Rep.mono _ e145 h105
        refine x_next ?_
        have hb109 : rows_139 = q111 := Option.some.inj hb109
        subst hb109
        exact ⟨G144, rows_139, v143, (u106), (u107), (some (V.int x117)), w142, (e114.trans e145), rfl, h146, hm110⟩
      · rintro σ' G150 H153 ⟨s103, v104, u106, u107, u108, w151, e152, rfl, h105, hm110⟩
        have hm110 := forS_end hm110
        subst hm110
        have h155 := Rep.mono _ e152 h94
        have h156 := Rep.mono _ e152 h95
        obtain ⟨a157, hx158, h⟩ := bindS h
        have h : a157 = r := Option.some.inj h
        subst h
        exact x_ret w151 (e_var (R := (rL (rL rB))) (x := s103) rfl h105) hx158 (fun v9 H9 G9 w9 e9 r9 => k v9 H9 G9 w9.upE r9)
def m_turned (rows0 : (List (List Bool))) : Option (List (List Bool)) :=
  ((rngM 0 (rows0.length : Int) >>= fun xs173 => mapS (fun x162 => (rngM 0 (rows0.length : Int) >>= fun xs172 => mapS (fun x168 => (atI rows0 x168 >>= fun t171 => atI t171 x162)) xs172)) xs173) >>= fun a174 => some a174)
theorem sc_turned : FnScope ["rows", "a", "b"] ["rows"] (defScope s_turned) := ⟨rfl, rfl, rfl, by decide +kernel, rfl, by decide +kernel, by decide +kernel⟩
theorem ok_turned (T : Tx K mg) : Fk P w K mg base CX0 1 "turned" ["rows"] (PF (aC (rL (rL rB)) aN) (rL (rL rB)) (fun i => m_turned i.1)) := by
  obtain ⟨fd, F⟩ := T.def_ 1 rfl
  have nd := sc_turned.nd
  refine fk_mk T.toTx (x := "turned") (T.glo 8 rfl) F (fun _ _ _ _ _ _ us hl => match us, hl with | [_], _ => rfl) (F.ok sc_turned (fun vs H Q E h => ?_) (fun cdv A outer s H vs Q E hr h => ?_))
  · obtain ⟨G, ⟨rows0, ⟨⟩⟩, r, e0, ⟨vrows0, _, rfl, hrows0, rfl⟩, h, k⟩ := h
    rfl
  · obtain ⟨G, ⟨rows0, ⟨⟩⟩, r, e0, ⟨vrows0, _, rfl, hrows0, rfl⟩, h, k⟩ := h
    have w0 := Wo.start e0
    have h : m_turned rows0 = some r := h
    unfold m_turned at h
    refine ⟨_, PSs.nox (pss_cons (ps_ret (pe_lc (own := [("a", 1)]) (by rfl) nd (pi_range1 (by rfl) (fr_range T) (pa_cons (pe_callB (r := rLn K) call_len_seq (by rfl) (fr_len T) (by decide +kernel) (pa_cons (pv 0) pa_nil)) pa_nil)) (blkOk_by (by kernel_rfl)) (fun _ _ _ _ _ => pg_name (i := 1) nd rfl (by first | exact Or.inl rfl | exact Or.inr rfl)) (fun _ _ _ _ _ => pts_nil) (fun _ _ _ _ _ => (pe_lc (own := [("b", 2)]) (by rfl) nd (pi_range1 (by rfl) (fr_range T) (pa_cons (pe_callB (r := rLn K) call_len_seq (by rfl) (fr_len T) (by decide +kernel) (pa_cons (pv 0) pa_nil)) pa_nil)) (blkOk_by (by kernel_rfl)) (fun _ _ _ _ _ => pg_name (i := 2) nd rfl (by first | exact Or.inl rfl | exact Or.inr rfl)) (fun _ _ _ _ _ => pts_nil) (fun _ _ _ _ _ => (pe_ix (r := rIxL K) ix_list (pe_ix (r := rIxL K) ix_list (pv 0) (pv 2) (fun _ _ => rfl)) (pv 1) (fun _ _ => rfl))))))) pss_nil), ?_⟩
    obtain ⟨a174, hx175, h⟩ := bindS h
    have h : a174 = r := Option.some.inj h
    subst h
    exact x_ret w0 (EL.e (el_mapR (el_lcR (j := 1) (ea_cons (e_cb rc_lenL (ea_cons (e_var (R := (rL (rL rB))) (x := rows0) rfl hrows0) ea_nil)) ea_nil) (fun _ => rfl) (fun _ _ _ _ _ _ => et_yes) (fun x162 G163 W164 eG159 eW160 eX161 => (EL.e (el_mapR (el_lcR (j := 2) (ea_cons (e_cb rc_lenL (ea_cons (e_var (R := (rL (rL rB))) (x := rows0) rfl (Rep.mono _ eG159 hrows0)) ea_nil)) ea_nil) (fun _ => rfl) (fun _ _ _ _ _ _ => et_yes) (fun x168 G169 W170 eG165 eW166 eX167 => (e_op rr_ixL (e_op rr_ixL (e_var (R := (rL (rL rB))) (x := rows0) rfl (Rep.mono _ eG165 (Rep.mono _ eG159 hrows0))) (e_var (R := rI) (x := x168) rfl rfl)) (e_var (R := rI) (x := x162) rfl rfl)))))))))) (by first | (simp only [be1, bs1, ba1] at hx175 ⊢; exact hx175) | exact hx175) (fun v9 H9 G9 w9 e9 r9 => k v9 H9 G9 w9.upE r9)
def m_least_above_b1 (rows0 : (List (List Bool))) (uppers_185 : (List Int)) (x210 : Int) (s199 : Unit) : Option (Stp Unit (Option Int)) :=
  (((lcS (fun x222 => (atI rows0 x210 >>= fun t227 => atI t227 x222)) (fun x222 => some x222) uppers_185 >>= fun t229 => some (t229.length : Int)) >>= fun t230 => some (t230 == (uppers_185.length : Int))) >>= fun b231 => bif b231 then (some (some x210) >>= fun a235 => some (Stp.rt a235)) else some (Stp.nx ()))
def m_least_above (rows0 : (List (List Bool))) (first0 : Int) (second0 : Int) : Option (Option Int) :=
  ((rngM 0 (rows0.length : Int) >>= fun xs184 => lcS (fun x179 => (andO ((atI rows0 first0 >>= fun t182 => atI t182 x179)) ((atI rows0 second0 >>= fun t183 => atI t183 x179)))) (fun x179 => some x179) xs184) >>= fun uppers_185 => (some uppers_185 >>= fun xs194 => forL (m_least_above_b1 rows0 uppers_185) xs194 () >>= Sum.elim (fun s199 => (some (none : (Option Int)) >>= fun a247 => some a247)) (fun r => some r)))
theorem sc_least_above : FnScope ["rows", "first", "second", "uppers", "found", "e"] ["rows", "first", "second"] (defScope s_least_above) := ⟨rfl, rfl, rfl, by decide +kernel, rfl, by decide +kernel, by decide +kernel⟩
theorem ok_least_above (T : Tx K mg) : Fk P w K mg base CX0 1 "least_above" ["rows", "first", "second"] (PF (aC (rL (rL rB)) (aC rI (aC rI aN))) (rO rI) (fun i => m_least_above i.1 i.2.1 i.2.2.1)) := by
  obtain ⟨fd, F⟩ := T.def_ 2 rfl
  have nd := sc_least_above.nd
  refine fk_mk T.toTx (x := "least_above") (T.glo 9 rfl) F (fun _ _ _ _ _ _ us hl => match us, hl with | [_, _, _], _ => rfl) (F.ok sc_least_above (fun vs H Q E h => ?_) (fun cdv A outer s H vs Q E hr h => ?_))
  · obtain ⟨G, ⟨rows0, first0, second0, ⟨⟩⟩, r, e0, ⟨vrows0, _, rfl, hrows0, vfirst0, _, rfl, hfirst0, vsecond0, _, rfl, hsecond0, rfl⟩, h, k⟩ := h
    rfl
  · obtain ⟨G, ⟨rows0, first0, second0, ⟨⟩⟩, r, e0, ⟨vrows0, _, rfl, hrows0, vfirst0, _, rfl, hfirst0, vsecond0, _, rfl, hsecond0, rfl⟩, h, k⟩ := h
    cases hfirst0
    cases hsecond0
    have w0 := Wo.start e0
    have h : m_least_above rows0 first0 second0 = some r := h
    unfold m_least_above at h
    refine ⟨_, PSs.nox (pss_cons (ps_setLc (i := 3) (own := [("e", 5)]) (by rfl) nd rfl rfl (sw_true rfl rfl rfl (by decide +kernel)) (pi_range1 (by rfl) (fr_range T) (pa_cons (pe_callB (r := rLn K) call_len_seq (by rfl) (fr_len T) (by decide +kernel) (pa_cons (pv 0) pa_nil)) pa_nil)) (blkOk_by (by kernel_rfl)) (fun _ _ _ _ _ => pg_name (i := 5) nd rfl (by first | exact Or.inl rfl | exact Or.inr rfl)) (fun _ _ _ _ _ => pts_one (PW.pt (pw_and (pt_val (pe_ix (r := rIxL K) ix_list (pe_ix (r := rIxL K) ix_list (pv 0) (pv 1) (fun _ _ => rfl)) (pv 5) (fun _ _ => rfl))) (pw_and1 (pt_val (pe_ix (r := rIxL K) ix_list (pe_ix (r := rIxL K) ix_list (pv 0) (pv 2) (fun _ _ => rfl)) (pv 5) (fun _ _ => rfl))))))) (fun _ _ _ _ _ => (pv 5))) (pss_cons (ps_for PassesOwn.never rfl (pi_list (pv 3)) (pg_name (i := 4) nd rfl (Or.inr rfl)) (pss_cons (ps_if (pt_cmpR op_eq (pe_callB (r := rLn K) call_len_seq (by rfl) (fr_len T) (by decide +kernel) (pa_cons (pe_lc (own := [("e", 5)]) (by rfl) nd (show L2.PI _ _ _ (iList K _) from pi_list (pv 3)) (blkOk_by (by kernel_rfl)) (fun _ _ _ _ _ => pg_name (i := 5) nd rfl (by first | exact Or.inl rfl | exact Or.inr rfl)) (fun _ _ _ _ _ => pts_one (pt_val (pe_ix (r := rIxL K) ix_list (pe_ix (r := rIxL K) ix_list (pv 0) (pv 4) (fun _ _ => rfl)) (pv 5) (fun _ _ => rfl)))) (fun _ _ _ _ _ => (pv 5))) pa_nil)) (pe_callB (r := rLn K) call_len_seq (by rfl) (fr_len T) (by decide +kernel) (pa_cons (pv 3) pa_nil)) (nomark _)) (pss_cons (ps_ret (pv 4)) pss_nil) pss_nil) pss_nil)) (pss_cons (ps_ret pe_non) pss_nil))), ?_⟩
    obtain ⟨uppers_185, hx186, h⟩ := bindS h
    refine x_set w0 (EL.e (el_lcR (j := 5) (ea_cons (e_cb rc_lenL (ea_cons (e_var (R := (rL (rL rB))) (x := rows0) rfl hrows0) ea_nil)) ea_nil) (fun _ => rfl) (fun x179 G180 W181 eG176 eW177 eX178 => (et_and (et_B (e_op rr_ixL (e_op rr_ixL (e_var (R := (rL (rL rB))) (x := rows0) rfl (Rep.mono _ eX178 (Rep.mono _ eG176 hrows0))) (e_var (R := rI) (x := first0) rfl rfl)) (e_var (R := rI) (x := x179) rfl rfl))) (et_B (e_op rr_ixL (e_op rr_ixL (e_var (R := (rL (rL rB))) (x := rows0) rfl (Rep.mono _ eX178 (Rep.mono _ eG176 hrows0))) (e_var (R := rI) (x := second0) rfl rfl)) (e_var (R := rI) (x := x179) rfl rfl))))) (fun x179 G180 W181 eG176 eW177 eX178 => (e_var (R := rI) (x := x179) rfl rfl)))) (by first | (simp only [be1, bs1, ba1] at hx186 ⊢; exact hx186) | exact hx186) ?_
    intro v189 H187 G190 w188 e191 h192
    have h193 := Rep.mono _ e191 hrows0
    obtain ⟨xs194, hx195, h⟩ := bindS h
    obtain ⟨t197, hx198, h⟩ := bindS h
    refine x_forL w188 (e_var (R := (rL rI)) (x := uppers_185) rfl h192) hx195 (fun i G' H' σ' => ∃ s199 : Unit, ∃ u200 : Option V, ∃ u201 : Option V, Wo G H [] G' H' [] ∧ Evl.Ex G190 G' ∧ σ' = [some vrows0, some (V.int first0), some (V.int second0), some v189, u201, u200] ∧ forL (m_least_above_b1 rows0 uppers_185) (xs194.drop i) s199 = some t197) (fun _ _ _ _ ⟨_, _, _, w, _⟩ => w.ex) ?_ ?_ ?_
    · intro G' H' w' e'
      exact ⟨(), (none), (none), w', e', rfl, hx198⟩
    · rintro G212 e213 i209 x210 v214 σ' G205 H208 hx211 e216 ⟨s199, u200, u201, w206, e207, rfl, hm203⟩ r215
      obtain ⟨q204, hb202, hm203⟩ := forL_at hx211 hm203
      have h217 := Rep.mono _ e207 h193
      have h218 := Rep.mono _ e207 h192
      refine g_name ?_
      cases r215
      unfold m_least_above_b1 at hb202
      obtain ⟨b231, hx232, hb202⟩ := bindS hb202
      refine x_if w206 (et_T (e_op rr_eqI (e_cb rc_lenL (ea_cons (EL.e (el_lcL (j := 5) (e_var (R := (rL rI)) (x := uppers_185) rfl (Rep.mono _ w206.ex h218)) (fun _ => rfl) (fun x222 v225 G223 W224 eG219 eW220 eX221 h226 => (et_B (e_op rr_ixL (e_op rr_ixL (e_var (R := (rL (rL rB))) (x := rows0) rfl (Rep.mono _ eX221 (Rep.mono _ eG219 (Rep.mono _ w206.ex h217)))) (e_var (R := rI) (x := x210) rfl rfl)) (e_var (R := rI) (x := x222) rfl (Rep.mono _ eX221 h226))))) (fun x222 v225 G223 W224 eG219 eW220 eX221 h226 => (e_var (R := rI) (x := x222) rfl h226)))) ea_nil)) (e_cb rc_lenL (ea_cons (e_var (R := (rL rI)) (x := uppers_185) rfl (Rep.mono _ w206.ex h218)) ea_nil)))) (by first | (simp only [be1, bs1, ba1] at hx232 ⊢; exact hx232) | exact hx232) ?_ ?_
      · intro hbb231 H233 w234
        subst hbb231
        have hb202 := bifT hb202
        obtain ⟨a235, hx236, hb202⟩ := bindS hb202
        have hb202 : some (Stp.rt a235) = some q204 := hb202
        cases hb202
        have hm203 : some (Sum.inr a235) = some t197 := hm203
        cases hm203
        have h : a235 = r := Option.some.inj h
        subst h
        exact x_ret w234 (e_some (e_var (R := rI) (x := x210) rfl rfl)) hx236 (fun v9 H9 G9 w9 e9 r9 => k v9 H9 G9 w9.upE r9)
      · intro hbb231 H237 w238
        subst hbb231
        have hb202 := bifF hb202
        refine x_next ?_
        refine x_next ?_
        have hb202 : Stp.nx () = q204 := Option.some.inj hb202
        subst hb202
        exact ⟨G205, (e216.trans (Evl.Ex.refl _)), (), (u200), (some (V.int x210)), w238, e207, rfl, hm203⟩
    · rintro σ' G239 H242 e243 ⟨s199, u200, u201, w240, e241, rfl, hm203⟩
      have hm203 := forL_end hm203
      subst hm203
      have h := elimL h
      have h245 := Rep.mono _ e241 h193
      have h246 := Rep.mono _ e241 h192
      obtain ⟨a247, hx248, h⟩ := bindS h
      have h : a247 = r := Option.some.inj h
      subst h
      exact x_ret w240 (e_none (R := rI)) hx248 (fun v9 H9 G9 w9 e9 r9 => k v9 H9 G9 w9.upE r9)
def m_bounds_table (rows0 : (List (List Bool))) : Option (List (List (Option Int))) :=
  (some (rows0.length : Int) >>= fun size_249 => ((rngM 0 size_249 >>= fun xs266 => mapS (fun x256 => (rngM 0 size_249 >>= fun xs265 => mapS (fun x262 => m_least_above rows0 x256 x262) xs265)) xs266) >>= fun a267 => some a267))
theorem sc_bounds_table : FnScope ["rows", "size", "a", "b"] ["rows"] (defScope s_bounds_table) := ⟨rfl, rfl, rfl, by decide +kernel, rfl, by decide +kernel, by decide +kernel⟩
theorem ok_bounds_table (T : Tx K mg) : Fk P w K mg base CX0 2 "bounds_table" ["rows"] (PF (aC (rL (rL rB)) aN) (rL (rL (rO rI))) (fun i => m_bounds_table i.1)) := by
  obtain ⟨fd_least_above, G_least_above, b_least_above, k_least_above, g_least_above⟩ := ok_least_above (w := w) (base := base) T
  obtain ⟨fd, F⟩ := T.def_ 3 rfl
  have nd := sc_bounds_table.nd
  refine fk_mk T.toTx (x := "bounds_table") (T.glo 10 rfl) F (fun _ _ _ _ _ _ us hl => match us, hl with | [_], _ => rfl) (F.ok sc_bounds_table (fun vs H Q E h => ?_) (fun cdv A outer s H vs Q E hr h => ?_))
  · obtain ⟨G, ⟨rows0, ⟨⟩⟩, r, e0, ⟨vrows0, _, rfl, hrows0, rfl⟩, h, k⟩ := h
    rfl
  · obtain ⟨G, ⟨rows0, ⟨⟩⟩, r, e0, ⟨vrows0, _, rfl, hrows0, rfl⟩, h, k⟩ := h
    have w0 := Wo.start e0
    have h : m_bounds_table rows0 = some r := h
    unfold m_bounds_table at h
    refine ⟨_, PSs.nox (pss_cons (ps_set (i := 1) nd rfl (Or.inr rfl) (pe_callB (r := rLn K) call_len_seq (by rfl) (fr_len T) (by decide +kernel) (pa_cons (pv 0) pa_nil))) (pss_cons (ps_ret (pe_lc (own := [("a", 2)]) (by rfl) nd (pi_range1 (by rfl) (fr_range T) (pa_cons (pv 1) pa_nil)) (blkOk_by (by kernel_rfl)) (fun _ _ _ _ _ => pg_name (i := 2) nd rfl (by first | exact Or.inl rfl | exact Or.inr rfl)) (fun _ _ _ _ _ => pts_nil) (fun _ _ _ _ _ => (pe_lc (own := [("b", 3)]) (by rfl) nd (pi_range1 (by rfl) (fr_range T) (pa_cons (pv 1) pa_nil)) (blkOk_by (by kernel_rfl)) (fun _ _ _ _ _ => pg_name (i := 3) nd rfl (by first | exact Or.inl rfl | exact Or.inr rfl)) (fun _ _ _ _ _ => pts_nil) (fun _ _ _ _ _ => (pe_call G_least_above (hr.mono (by decide)) rfl g_least_above k_least_above b_least_above .nil pass0 (pa_cons (pv 0) (pa_cons (pv 2) (pa_cons (pv 3) pa_nil))))))))) pss_nil)), ?_⟩
    obtain ⟨size_249, hx250, h⟩ := bindS h
    refine x_setI w0 (e_cb rc_lenL (ea_cons (e_var (R := (rL (rL rB))) (x := rows0) rfl hrows0) ea_nil)) hx250 ?_
    intro H251 w252
    obtain ⟨a267, hx268, h⟩ := bindS h
    have h : a267 = r := Option.some.inj h
    subst h
    exact x_ret w252 (EL.e (el_mapR (el_lcR (j := 2) (ea_cons (e_var (R := rI) (x := size_249) rfl rfl) ea_nil) (fun _ => rfl) (fun _ _ _ _ _ _ => et_yes) (fun x256 G257 W258 eG253 eW254 eX255 => (EL.e (el_mapR (el_lcR (j := 3) (ea_cons (e_var (R := rI) (x := size_249) rfl rfl) ea_nil) (fun _ => rfl) (fun _ _ _ _ _ _ => et_yes) (fun x262 G263 W264 eG259 eW260 eX261 => (e_call (ea_cons (e_var (R := (rL (rL rB))) (x := rows0) rfl (Rep.mono _ eG259 (Rep.mono _ eG253 hrows0))) (ea_cons (e_var (R := rI) (x := x256) rfl rfl) (ea_cons (e_var (R := rI) (x := x262) rfl rfl) ea_nil)))))))))))) (by first | (simp only [be1, bs1, ba1] at hx268 ⊢; exact hx268) | exact hx268) (fun v9 H9 G9 w9 e9 r9 => k v9 H9 G9 w9.upE r9)
def m_first_ring_b2 (rows0 : (List (List Bool))) (x287 : Int) (x309 : Int) (s299 : Unit) : Option (Stp Unit (Option (Int × Int))) :=
  ((andO ((atI rows0 x287 >>= fun t312 => atI t312 x309)) ((atI rows0 x309 >>= fun t313 => atI t313 x287))) >>= fun b314 => bif b314 then (some (some (x287, x309)) >>= fun a318 => some (Stp.rt a318)) else some (Stp.nx ()))
def m_first_ring_b1 (rows0 : (List (List Bool))) (x287 : Int) (s276 : Unit) : Option (Stp Unit (Option (Int × Int))) :=
  (some (x287 + (1 : Int)) >>= fun n290 => some (rows0.length : Int) >>= fun n292 => rngM n290 n292 >>= fun xs294 => forL (m_first_ring_b2 rows0 x287) xs294 () >>= Sum.elim (fun s299 => some (Stp.nx ())) (fun r => some (Stp.rt r)))
def m_first_ring (rows0 : (List (List Bool))) : Option (Option (Int × Int)) :=
  (some (rows0.length : Int) >>= fun n269 => rngM 0 n269 >>= fun xs271 => forL (m_first_ring_b1 rows0) xs271 () >>= Sum.elim (fun s276 => (some (none : (Option (Int × Int))) >>= fun a334 => some a334)) (fun r => some r))
theorem sc_first_ring : FnScope ["rows", "first", "second"] ["rows"] (defScope s_first_ring) := ⟨rfl, rfl, rfl, by decide +kernel, rfl, by decide +kernel, by decide +kernel⟩
theorem ok_first_ring (T : Tx K mg) : Fk P w K mg base CX0 1 "first_ring" ["rows"] (PF (aC (rL (rL rB)) aN) (rO (rP rI rI)) (fun i => m_first_ring i.1)) := by
  obtain ⟨fd, F⟩ := T.def_ 4 rfl
  have nd := sc_first_ring.nd
  refine fk_mk T.toTx (x := "first_ring") (T.glo 11 rfl) F (fun _ _ _ _ _ _ us hl => match us, hl with | [_], _ => rfl) (F.ok sc_first_ring (fun vs H Q E h => ?_) (fun cdv A outer s H vs Q E hr h => ?_))
  · obtain ⟨G, ⟨rows0, ⟨⟩⟩, r, e0, ⟨vrows0, _, rfl, hrows0, rfl⟩, h, k⟩ := h
    rfl
  · obtain ⟨G, ⟨rows0, ⟨⟩⟩, r, e0, ⟨vrows0, _, rfl, hrows0, rfl⟩, h, k⟩ := h
    have w0 := Wo.start e0
    have h : m_first_ring rows0 = some r := h
    unfold m_first_ring at h
    refine ⟨_, PSs.nox (pss_cons (ps_for PassesOwn.never rfl (pi_range1 (by rfl) (fr_range T) (pa_cons (pe_callB (r := rLn K) call_len_seq (by rfl) (fr_len T) (by decide +kernel) (pa_cons (pv 0) pa_nil)) pa_nil)) (pg_name (i := 1) nd rfl (Or.inl rfl)) (pss_cons (ps_for PassesOwn.never rfl (pi_range2 (by rfl) (fr_range T) (pa_cons (pe_op op_add (pv 1) pe_int) (pa_cons (pe_callB (r := rLn K) call_len_seq (by rfl) (fr_len T) (by decide +kernel) (pa_cons (pv 0) pa_nil)) pa_nil))) (pg_name (i := 2) nd rfl (Or.inl rfl)) (pss_cons (ps_if (PW.pt (pw_and (pt_val (pe_ix (r := rIxL K) ix_list (pe_ix (r := rIxL K) ix_list (pv 0) (pv 1) (fun _ _ => rfl)) (pv 2) (fun _ _ => rfl))) (pw_and1 (pt_val (pe_ix (r := rIxL K) ix_list (pe_ix (r := rIxL K) ix_list (pv 0) (pv 2) (fun _ _ => rfl)) (pv 1) (fun _ _ => rfl)))))) (pss_cons (ps_ret (pe_tup (pa_cons (pv 1) (pa_cons (pv 2) pa_nil)))) pss_nil) pss_nil) pss_nil)) pss_nil)) (pss_cons (ps_ret pe_non) pss_nil)), ?_⟩
    obtain ⟨n269, hx270, h⟩ := bindS h
    obtain ⟨xs271, hx272, h⟩ := bindS h
    obtain ⟨t274, hx275, h⟩ := bindS h
    refine x_forR w0 (ea_cons (Sim.E.is (e_cb rc_lenL (ea_cons (e_var (R := (rL (rL rB))) (x := rows0) rfl hrows0) ea_nil)) hx270) ea_nil) rfl hx272 (fun i G' H' σ' => ∃ s276 : Unit, ∃ u277 : Option V, ∃ u278 : Option V, Wo G H [] G' H' [] ∧ Evl.Ex G G' ∧ σ' = [some vrows0, u277, u278] ∧ forL (m_first_ring_b1 rows0) (xs271.drop i) s276 = some t274) ?_ ?_ ?_
    · intro G' H' w' e'
      exact ⟨(), (none), (none), w', e', rfl, hx275⟩
    · rintro i286 x287 σ' G282 H285 hx288 ⟨s276, u277, u278, w283, e284, rfl, hm280⟩
      obtain ⟨q281, hb279, hm280⟩ := forL_at hx288 hm280
      have h289 := Rep.mono _ e284 hrows0
      refine g_name ?_
      unfold m_first_ring_b1 at hb279
      obtain ⟨n290, hx291, hb279⟩ := bindS hb279
      obtain ⟨n292, hx293, hb279⟩ := bindS hb279
      obtain ⟨xs294, hx295, hb279⟩ := bindS hb279
      obtain ⟨t297, hx298, hb279⟩ := bindS hb279
      refine x_forR2 w283 (ea_cons (Sim.E.is (e_op rr_add (e_var (R := rI) (x := x287) rfl rfl) e_int) hx291) (ea_cons (Sim.E.is (e_cb rc_lenL (ea_cons (e_var (R := (rL (rL rB))) (x := rows0) rfl h289) ea_nil)) hx293) ea_nil)) rfl hx295 (fun i G' H' σ' => ∃ s299 : Unit, ∃ u300 : Option V, Wo G H [] G' H' [] ∧ Evl.Ex G282 G' ∧ σ' = [some vrows0, some (V.int x287), u300] ∧ forL (m_first_ring_b2 rows0 x287) (xs294.drop i) s299 = some t297) ?_ ?_ ?_
      · intro G' H' w' e'
        exact ⟨(), (u278), w', e', rfl, hx298⟩
      · rintro i308 x309 σ' G304 H307 hx310 ⟨s299, u300, w305, e306, rfl, hm302⟩
        obtain ⟨q303, hb301, hm302⟩ := forL_at hx310 hm302
        have h311 := Rep.mono _ e306 h289
        refine g_name ?_
        unfold m_first_ring_b2 at hb301
        obtain ⟨b314, hx315, hb301⟩ := bindS hb301
        refine x_if w305 (et_and (et_B (e_op rr_ixL (e_op rr_ixL (e_var (R := (rL (rL rB))) (x := rows0) rfl (Rep.mono _ w305.ex h311)) (e_var (R := rI) (x := x287) rfl rfl)) (e_var (R := rI) (x := x309) rfl rfl))) (et_B (e_op rr_ixL (e_op rr_ixL (e_var (R := (rL (rL rB))) (x := rows0) rfl (Rep.mono _ w305.ex h311)) (e_var (R := rI) (x := x309) rfl rfl)) (e_var (R := rI) (x := x287) rfl rfl)))) (by first | (simp only [be1, bs1, ba1] at hx315 ⊢; exact hx315) | exact hx315) ?_ ?_
        · intro hbb314 H316 w317
          subst hbb314
          have hb301 := bifT hb301
          obtain ⟨a318, hx319, hb301⟩ := bindS hb301
          have hb301 : some (Stp.rt a318) = some q303 := hb301
          cases hb301
          have hm302 : some (Sum.inr a318) = some t297 := hm302
          cases hm302
          have hb279 : some (Stp.rt a318) = some q281 := hb279
          cases hb279
          have hm280 : some (Sum.inr a318) = some t274 := hm280
          cases hm280
          have h : a318 = r := Option.some.inj h
          subst h
          exact x_ret w317 (e_some (e_pair (e_var (R := rI) (x := x287) rfl rfl) (e_var (R := rI) (x := x309) rfl rfl))) hx319 (fun v9 H9 G9 w9 e9 r9 => k v9 H9 G9 w9.upE r9)
        · intro hbb314 H320 w321
          subst hbb314
          have hb301 := bifF hb301
          refine x_next ?_
          refine x_next ?_
          have hb301 : Stp.nx () = q303 := Option.some.inj hb301
          subst hb301
          exact ⟨G304, (), (some (V.int x309)), w321, e306, rfl, hm302⟩
      · rintro σ' G322 H325 ⟨s299, u300, w323, e324, rfl, hm302⟩
        have hm302 := forL_end hm302
        subst hm302
        have hb279 := elimL hb279
        have h327 := Rep.mono _ e324 h289
        refine x_next ?_
        have hb279 : Stp.nx () = q281 := Option.some.inj hb279
        subst hb279
        exact ⟨G322, (), (some (V.int x287)), (u300), w323, (e284.trans e324), rfl, hm280⟩
    · rintro σ' G328 H331 ⟨s276, u277, u278, w329, e330, rfl, hm280⟩
      have hm280 := forL_end hm280
      subst hm280
      have h := elimL h
      have h333 := Rep.mono _ e330 hrows0
      obtain ⟨a334, hx335, h⟩ := bindS h
      have h : a334 = r := Option.some.inj h
      subst h
      exact x_ret w329 (e_none (R := (rP rI rI))) hx335 (fun v9 H9 G9 w9 e9 r9 => k v9 H9 G9 w9.upE r9)
def m_first_lack_b2 (table0 : (List (List (Option Int)))) (x354 : Int) (x376 : Int) (s366 : Unit) : Option (Stp Unit (Option (Int × Int))) :=
  (((atI table0 x354 >>= fun t379 => atI t379 x376) >>= fun t380 => some t380.isNone) >>= fun b381 => bif b381 then (some (some (x354, x376)) >>= fun a385 => some (Stp.rt a385)) else some (Stp.nx ()))
def m_first_lack_b1 (table0 : (List (List (Option Int)))) (x354 : Int) (s343 : Unit) : Option (Stp Unit (Option (Int × Int))) :=
  (some (x354 + (1 : Int)) >>= fun n357 => some (table0.length : Int) >>= fun n359 => rngM n357 n359 >>= fun xs361 => forL (m_first_lack_b2 table0 x354) xs361 () >>= Sum.elim (fun s366 => some (Stp.nx ())) (fun r => some (Stp.rt r)))
def m_first_lack (table0 : (List (List (Option Int)))) : Option (Option (Int × Int)) :=
  (some (table0.length : Int) >>= fun n336 => rngM 0 n336 >>= fun xs338 => forL (m_first_lack_b1 table0) xs338 () >>= Sum.elim (fun s343 => (some (none : (Option (Int × Int))) >>= fun a401 => some a401)) (fun r => some r))
theorem sc_first_lack : FnScope ["table", "first", "second"] ["table"] (defScope s_first_lack) := ⟨rfl, rfl, rfl, by decide +kernel, rfl, by decide +kernel, by decide +kernel⟩
theorem ok_first_lack (T : Tx K mg) : Fk P w K mg base CX0 1 "first_lack" ["table"] (PF (aC (rL (rL (rO rI))) aN) (rO (rP rI rI)) (fun i => m_first_lack i.1)) := by
  obtain ⟨fd, F⟩ := T.def_ 5 rfl
  have nd := sc_first_lack.nd
  refine fk_mk T.toTx (x := "first_lack") (T.glo 12 rfl) F (fun _ _ _ _ _ _ us hl => match us, hl with | [_], _ => rfl) (F.ok sc_first_lack (fun vs H Q E h => ?_) (fun cdv A outer s H vs Q E hr h => ?_))
  · obtain ⟨G, ⟨table0, ⟨⟩⟩, r, e0, ⟨vtable0, _, rfl, htable0, rfl⟩, h, k⟩ := h
    rfl
  · obtain ⟨G, ⟨table0, ⟨⟩⟩, r, e0, ⟨vtable0, _, rfl, htable0, rfl⟩, h, k⟩ := h
    have w0 := Wo.start e0
    have h : m_first_lack table0 = some r := h
    unfold m_first_lack at h
    refine ⟨_, PSs.nox (pss_cons (ps_for PassesOwn.never rfl (pi_range1 (by rfl) (fr_range T) (pa_cons (pe_callB (r := rLn K) call_len_seq (by rfl) (fr_len T) (by decide +kernel) (pa_cons (pv 0) pa_nil)) pa_nil)) (pg_name (i := 1) nd rfl (Or.inl rfl)) (pss_cons (ps_for PassesOwn.never rfl (pi_range2 (by rfl) (fr_range T) (pa_cons (pe_op op_add (pv 1) pe_int) (pa_cons (pe_callB (r := rLn K) call_len_seq (by rfl) (fr_len T) (by decide +kernel) (pa_cons (pv 0) pa_nil)) pa_nil))) (pg_name (i := 2) nd rfl (Or.inl rfl)) (pss_cons (ps_if (pt_cmpR op_isN (pe_ix (r := rIxL K) ix_list (pe_ix (r := rIxL K) ix_list (pv 0) (pv 1) (fun _ _ => rfl)) (pv 2) (fun _ _ => rfl)) pe_non (nomark _)) (pss_cons (ps_ret (pe_tup (pa_cons (pv 1) (pa_cons (pv 2) pa_nil)))) pss_nil) pss_nil) pss_nil)) pss_nil)) (pss_cons (ps_ret pe_non) pss_nil)), ?_⟩
    obtain ⟨n336, hx337, h⟩ := bindS h
    obtain ⟨xs338, hx339, h⟩ := bindS h
    obtain ⟨t341, hx342, h⟩ := bindS h
    refine x_forR w0 (ea_cons (Sim.E.is (e_cb rc_lenL (ea_cons (e_var (R := (rL (rL (rO rI)))) (x := table0) rfl htable0) ea_nil)) hx337) ea_nil) rfl hx339 (fun i G' H' σ' => ∃ s343 : Unit, ∃ u344 : Option V, ∃ u345 : Option V, Wo G H [] G' H' [] ∧ Evl.Ex G G' ∧ σ' = [some vtable0, u344, u345] ∧ forL (m_first_lack_b1 table0) (xs338.drop i) s343 = some t341) ?_ ?_ ?_
    · intro G' H' w' e'
      exact ⟨(), (none), (none), w', e', rfl, hx342⟩
    · rintro i353 x354 σ' G349 H352 hx355 ⟨s343, u344, u345, w350, e351, rfl, hm347⟩
      obtain ⟨q348, hb346, hm347⟩ := forL_at hx355 hm347
      have h356 := Rep.mono _ e351 htable0
      refine g_name ?_
      unfold m_first_lack_b1 at hb346
      obtain ⟨n357, hx358, hb346⟩ := bindS hb346
      obtain ⟨n359, hx360, hb346⟩ := bindS hb346
      obtain ⟨xs361, hx362, hb346⟩ := bindS hb346
      obtain ⟨t364, hx365, hb346⟩ := bindS hb346
      refine x_forR2 w350 (ea_cons (Sim.E.is (e_op rr_add (e_var (R := rI) (x := x354) rfl rfl) e_int) hx358) (ea_cons (Sim.E.is (e_cb rc_lenL (ea_cons (e_var (R := (rL (rL (rO rI)))) (x := table0) rfl h356) ea_nil)) hx360) ea_nil)) rfl hx362 (fun i G' H' σ' => ∃ s366 : Unit, ∃ u367 : Option V, Wo G H [] G' H' [] ∧ Evl.Ex G349 G' ∧ σ' = [some vtable0, some (V.int x354), u367] ∧ forL (m_first_lack_b2 table0 x354) (xs361.drop i) s366 = some t364) ?_ ?_ ?_
      · intro G' H' w' e'
        exact ⟨(), (u345), w', e', rfl, hx365⟩
      · rintro i375 x376 σ' G371 H374 hx377 ⟨s366, u367, w372, e373, rfl, hm369⟩
        obtain ⟨q370, hb368, hm369⟩ := forL_at hx377 hm369
        have h378 := Rep.mono _ e373 h356
        refine g_name ?_
        unfold m_first_lack_b2 at hb368
        obtain ⟨b381, hx382, hb368⟩ := bindS hb368
        refine x_if w372 (et_T (e_op (rr_isN nnI) (e_op rr_ixL (e_op rr_ixL (e_var (R := (rL (rL (rO rI)))) (x := table0) rfl (Rep.mono _ w372.ex h378)) (e_var (R := rI) (x := x354) rfl rfl)) (e_var (R := rI) (x := x376) rfl rfl)) e_non)) (by first | (simp only [be1, bs1, ba1] at hx382 ⊢; exact hx382) | exact hx382) ?_ ?_
        · intro hbb381 H383 w384
          subst hbb381
          have hb368 := bifT hb368
          obtain ⟨a385, hx386, hb368⟩ := bindS hb368
          have hb368 : some (Stp.rt a385) = some q370 := hb368
          cases hb368
          have hm369 : some (Sum.inr a385) = some t364 := hm369
          cases hm369
          have hb346 : some (Stp.rt a385) = some q348 := hb346
          cases hb346
          have hm347 : some (Sum.inr a385) = some t341 := hm347
          cases hm347
          have h : a385 = r := Option.some.inj h
          subst h
          exact x_ret w384 (e_some (e_pair (e_var (R := rI) (x := x354) rfl rfl) (e_var (R := rI) (x := x376) rfl rfl))) hx386 (fun v9 H9 G9 w9 e9 r9 => k v9 H9 G9 w9.upE r9)
        · intro hbb381 H387 w388
          subst hbb381
          have hb368 := bifF hb368
          refine x_next ?_
          refine x_next ?_
          have hb368 : Stp.nx () = q370 := Option.some.inj hb368
          subst hb368
          exact ⟨G371, (), (some (V.int x376)), w388, e373, rfl, hm369⟩
      · rintro σ' G389 H392 ⟨s366, u367, w390, e391, rfl, hm369⟩
        have hm369 := forL_end hm369
        subst hm369
        have hb346 := elimL hb346
        have h394 := Rep.mono _ e391 h356
        refine x_next ?_
        have hb346 : Stp.nx () = q348 := Option.some.inj hb346
        subst hb346
        exact ⟨G389, (), (some (V.int x354)), (u367), w390, (e351.trans e391), rfl, hm347⟩
    · rintro σ' G395 H398 ⟨s343, u344, u345, w396, e397, rfl, hm347⟩
      have hm347 := forL_end hm347
      subst hm347
      have h := elimL h
      have h400 := Rep.mono _ e397 htable0
      obtain ⟨a401, hx402, h⟩ := bindS h
      have h : a401 = r := Option.some.inj h
      subst h
      exact x_ret w396 (e_none (R := (rP rI rI))) hx402 (fun v9 H9 G9 w9 e9 r9 => k v9 H9 G9 w9.upE r9)
def m_longest_b3 (x464 : Int) (rows0 : (List (List Bool))) (x485 : Int) (s475 : (List Int)) : Option (List Int) :=
  (((andO (some (!(x464 == x485))) ((atI rows0 x464 >>= fun t489 => atI t489 x485))) >>= fun b490 => bif b490 then ((atI s475 x485 >>= fun t515 => ((atI s475 x464 >>= fun t514 => some (t514 + (1 : Int))) >>= fun t516 => some (if t516 > t515 then t516 else t515))) >>= fun a517 => some x485 >>= fun i518 => setM s475 i518 a517 >>= fun steps_519 => some steps_519) else some s475) >>= fun s506 => some (s506))
def m_longest_b2 (rows0 : (List (List Bool))) (x464 : Int) (s453 : (List Int)) : Option (List Int) :=
  (some (rows0.length : Int) >>= fun n468 => rngM 0 n468 >>= fun xs470 => forS (m_longest_b3 x464 rows0) xs470 s453 >>= fun s475 => some (s475))
def m_longest_b1 (rows0 : (List (List Bool))) (x438 : (List Bool)) (s426 : (List Int)) : Option (List Int) :=
  (some (rows0.length : Int) >>= fun n446 => rngM 0 n446 >>= fun xs448 => forS (m_longest_b2 rows0) xs448 s426 >>= fun s453 => some (s453))
def m_longest (rows0 : (List (List Bool))) : Option Int :=
  (mapS (fun x406 => some (0 : Int)) rows0 >>= fun steps_412 => (some rows0 >>= fun xs421 => forS (m_longest_b1 rows0) xs421 steps_412 >>= fun s426 => (maxL s426 >>= fun a561 => some a561)))
theorem sc_longest : FnScope ["rows", "steps", "_", "low", "high"] ["rows"] (defScope s_longest) := ⟨rfl, rfl, rfl, by decide +kernel, rfl, by decide +kernel, by decide +kernel⟩
theorem ok_longest (T : Tx K mg) : Fk P w K mg base CX0 1 "longest" ["rows"] (PF (aC (rL (rL rB)) aN) rI (fun i => m_longest i.1)) := by
  obtain ⟨fd, F⟩ := T.def_ 6 rfl
  have nd := sc_longest.nd
  refine fk_mk T.toTx (x := "longest") (T.glo 13 rfl) F (fun _ _ _ _ _ _ us hl => match us, hl with | [_], _ => rfl) (F.ok sc_longest (fun vs H Q E h => ?_) (fun cdv A outer s H vs Q E hr h => ?_))
  · obtain ⟨G, ⟨rows0, ⟨⟩⟩, r, e0, ⟨vrows0, _, rfl, hrows0, rfl⟩, h, k⟩ := h
    rfl
  · obtain ⟨G, ⟨rows0, ⟨⟩⟩, r, e0, ⟨vrows0, _, rfl, hrows0, rfl⟩, h, k⟩ := h
    have w0 := Wo.start e0
    have h : m_longest rows0 = some r := h
    unfold m_longest at h
    refine ⟨_, PSs.nox (pss_cons (ps_setLc (i := 1) (own := [("_", 2)]) (by rfl) nd rfl rfl (sw_true rfl rfl rfl (by decide +kernel)) (show L2.PI _ _ _ (iList K _) from pi_list (pv 0)) (blkOk_by (by kernel_rfl)) (fun _ _ _ _ _ => pg_name (i := 2) nd rfl (by first | exact Or.inl rfl | exact Or.inr rfl)) (fun _ _ _ _ _ => pts_nil) (fun _ _ _ _ _ => pe_int)) (pss_cons (ps_for PassesOwn.never rfl (pi_list (pv 0)) (pg_name (i := 2) nd rfl (Or.inl rfl)) (pss_cons (ps_for PassesOwn.never rfl (pi_range1 (by rfl) (fr_range T) (pa_cons (pe_callB (r := rLn K) call_len_seq (by rfl) (fr_len T) (by decide +kernel) (pa_cons (pv 0) pa_nil)) pa_nil)) (pg_name (i := 3) nd rfl (Or.inl rfl)) (pss_cons (ps_for PassesOwn.never rfl (pi_range1 (by rfl) (fr_range T) (pa_cons (pe_callB (r := rLn K) call_len_seq (by rfl) (fr_len T) (by decide +kernel) (pa_cons (pv 0) pa_nil)) pa_nil)) (pg_name (i := 4) nd rfl (Or.inl rfl)) (Evl.pss_cut (ps_if (PW.pt (pw_and (pt_cmpR op_ne (pv 3) (pv 4) (nomark _)) (pw_and1 (pt_val (pe_ix (r := rIxL K) ix_list (pe_ix (r := rIxL K) ix_list (pv 0) (pv 3) (fun _ _ => rfl)) (pv 4) (fun _ _ => rfl)))))) (pss_cons (ps_asg (pe_callB (call_max2 rfl) (by rfl) (fr_max T) (by decide +kernel) (pa_cons (pe_ix (r := rIxL K) ix_list (pv 1) (pv 4) (fun _ _ => rfl)) (pa_cons (pe_op op_add (pe_ix (r := rIxL K) ix_list (pv 1) (pv 3) (fun _ _ => rfl)) pe_int) pa_nil))) (pg_sub (pv 1) (pv 4) set_list)) pss_nil) pss_nil) pss_nil)) pss_nil)) pss_nil)) (pss_cons (ps_ret (pe_callB (r := rMax K) (cr_max rfl) (by rfl) (fr_max T) (by decide +kernel) (pa_cons (pv 1) pa_nil))) pss_nil))), ?_⟩
    obtain ⟨steps_412, hx413, h⟩ := bindS h
    refine x_setL w0 (el_map (el_lcL (j := 2) (e_var (R := (rL (rL rB))) (x := rows0) rfl hrows0) (fun _ => rfl) (fun _ _ _ _ _ _ _ _ => et_yes) (fun x406 v409 G407 W408 eG403 eW404 eX405 h410 => e_int))) hx413 ?_
    intro p416 H414 G417 n418 w415 e419
    have h420 := Rep.mono _ e419 hrows0
    obtain ⟨xs421, hx422, h⟩ := bindS h
    obtain ⟨t424, hx425, h⟩ := bindS h
    refine x_forL w415 (e_var (R := (rL (rL rB))) (x := rows0) rfl h420) hx422 (fun i G' H' σ' => ∃ s426 : (List Int), ∃ u427 : Option V, ∃ u428 : Option V, ∃ u429 : Option V, Wo G H [] G' H' [(p416, cL rI s426)] ∧ Evl.Ex G417 G' ∧ σ' = [some vrows0, some (V.ref p416), u427, u429, u428] ∧ forS (m_longest_b1 rows0) (xs421.drop i) s426 = some t424) (fun _ _ _ _ ⟨_, _, _, _, w, _⟩ => w.ex) ?_ ?_ ?_
    · intro G' H' w' e'
      exact ⟨steps_412, (none), (none), (none), w', e', rfl, hx425⟩
    · rintro G440 e441 i437 x438 v442 σ' G433 H436 hx439 e444 ⟨s426, u427, u428, u429, w434, e435, rfl, hm431⟩ r443
      obtain ⟨q432, hb430, hm431⟩ := forS_at hx439 hm431
      have h445 := Rep.mono _ e435 h420
      refine g_name ?_
      unfold m_longest_b1 at hb430
      obtain ⟨n446, hx447, hb430⟩ := bindS hb430
      obtain ⟨xs448, hx449, hb430⟩ := bindS hb430
      obtain ⟨t451, hx452, hb430⟩ := bindS hb430
      refine x_forR w434 (ea_cons (Sim.E.is (e_cb rc_lenL (ea_cons (e_var (R := (rL (rL rB))) (x := rows0) rfl h445) ea_nil)) hx447) ea_nil) rfl hx449 (fun i G' H' σ' => ∃ s453 : (List Int), ∃ u454 : Option V, ∃ u455 : Option V, Wo G H [] G' H' [(p416, cL rI s453)] ∧ Evl.Ex G433 G' ∧ σ' = [some vrows0, some (V.ref p416), some v442, u455, u454] ∧ forS (m_longest_b2 rows0) (xs448.drop i) s453 = some t451) ?_ ?_ ?_
      · intro G' H' w' e'
        exact ⟨s426, (u428), (u429), w', e', rfl, hx452⟩
      · rintro i463 x464 σ' G459 H462 hx465 ⟨s453, u454, u455, w460, e461, rfl, hm457⟩
        obtain ⟨q458, hb456, hm457⟩ := forS_at hx465 hm457
        have h466 := Rep.mono _ e461 h445
        have h467 := Rep.mono _ e461 r443
        refine g_name ?_
        unfold m_longest_b2 at hb456
        obtain ⟨n468, hx469, hb456⟩ := bindS hb456
        obtain ⟨xs470, hx471, hb456⟩ := bindS hb456
        obtain ⟨t473, hx474, hb456⟩ := bindS hb456
        refine x_forR w460 (ea_cons (Sim.E.is (e_cb rc_lenL (ea_cons (e_var (R := (rL (rL rB))) (x := rows0) rfl h466) ea_nil)) hx469) ea_nil) rfl hx471 (fun i G' H' σ' => ∃ s475 : (List Int), ∃ u476 : Option V, Wo G H [] G' H' [(p416, cL rI s475)] ∧ Evl.Ex G459 G' ∧ σ' = [some vrows0, some (V.ref p416), some v442, some (V.int x464), u476] ∧ forS (m_longest_b3 x464 rows0) (xs470.drop i) s475 = some t473) ?_ ?_ ?_
        · intro G' H' w' e'
          exact ⟨s453, (u454), w', e', rfl, hx474⟩
        · rintro i484 x485 σ' G480 H483 hx486 ⟨s475, u476, w481, e482, rfl, hm478⟩
          obtain ⟨q479, hb477, hm478⟩ := forS_at hx486 hm478
          have h487 := Rep.mono _ e482 h466
          have h488 := Rep.mono _ e482 h467
          refine g_name ?_
          unfold m_longest_b3 at hb477
          obtain ⟨s506, hx507, hb477⟩ := bindS hb477
          refine o_cut (fun σ' H' => ∃ G' : Hp, Wo G H [] G' H' [(p416, cL rI s506)] ∧ Evl.Ex G480 G' ∧ σ' = [some vrows0, some (V.ref p416), some v442, some (V.int x464), some (V.int x485)]) ?_ ?_
          · obtain ⟨b490, hx511, hx507⟩ := bindS hx507
            refine x_if w481 (et_and (et_T (e_op rr_neI (e_var (R := rI) (x := x464) rfl rfl) (e_var (R := rI) (x := x485) rfl rfl))) (et_B (e_op rr_ixL (e_op rr_ixL (e_var (R := (rL (rL rB))) (x := rows0) rfl (Rep.mono _ w481.ex h487)) (e_var (R := rI) (x := x464) rfl rfl)) (e_var (R := rI) (x := x485) rfl rfl)))) (by first | (simp only [be1, bs1, ba1] at hx511 ⊢; exact hx511) | exact hx511) ?_ ?_
            · intro hbb490 H512 w513
              subst hbb490
              have hx507 := bifT hx507
              obtain ⟨a517, hx520, hx507⟩ := bindS hx507
              obtain ⟨i518, hx521, hx507⟩ := bindS hx507
              obtain ⟨steps_519, hx522, hx507⟩ := bindS hx507
              refine x_setIx (j := 0) w513 rfl rfl (Sim.E.s scI (e_cb rc_max2 (ea_cons (e_op rr_ixL (e_var (R := (rL rI)) (x := s475) rfl (w513.rlAt (i := 0) rfl)) (e_var (R := rI) (x := x485) rfl rfl)) (ea_cons (e_op rr_add (e_op rr_ixL (e_var (R := (rL rI)) (x := s475) rfl (w513.rlAt (i := 0) rfl)) (e_var (R := rI) (x := x464) rfl rfl)) e_int) ea_nil)))) (by first | (simp only [be1, bs1, ba1] at hx520 ⊢; exact hx520) | exact hx520) (e_var (R := rI) (x := x485) rfl rfl) (by first | (simp only [be1, bs1, ba1] at hx521 ⊢; exact hx521) | exact hx521) hx522 ?_
              intro H523 G524 w525 e526
              have h527 := Rep.mono _ e526 h487
              have h528 := Rep.mono _ e526 h488
              have w525 : Wo G H [] G524 H523 [(p416, cL rI steps_519)] := w525
              refine x_next ?_
              have hx507 : steps_519 = s506 := Option.some.inj hx507
              subst hx507
              exact ⟨G524, w525, e526, rfl⟩
            · intro hbb490 H529 w530
              subst hbb490
              have hx507 := bifF hx507
              refine x_next ?_
              have hx507 : s475 = s506 := Option.some.inj hx507
              subst hx507
              exact ⟨G480, w530, (Evl.Ex.refl _), rfl⟩
          · rintro σ' H534 ⟨G531, w509, e508, rfl⟩
            have h532 := Rep.mono _ e508 h487
            have h533 := Rep.mono _ e508 h488
            refine x_next ?_
            have hb477 : s506 = q479 := Option.some.inj hb477
            subst hb477
            exact ⟨G531, s506, (some (V.int x485)), w509, (e482.trans e508), rfl, hm478⟩
        · rintro σ' G535 H538 ⟨s475, u476, w536, e537, rfl, hm478⟩
          have hm478 := forS_end hm478
          subst hm478
          have h540 := Rep.mono _ e537 h466
          have h541 := Rep.mono _ e537 h467
          refine x_next ?_
          have hb456 : s475 = q458 := Option.some.inj hb456
          subst hb456
          exact ⟨G535, s475, (u476), (some (V.int x464)), w536, (e461.trans e537), rfl, hm457⟩
      · rintro σ' G542 H545 ⟨s453, u454, u455, w543, e544, rfl, hm457⟩
        have hm457 := forS_end hm457
        subst hm457
        have h547 := Rep.mono _ e544 h445
        have h548 := Rep.mono _ e544 r443
        refine x_next ?_
        have hb430 : s453 = q432 := Option.some.inj hb430
        subst hb430
        exact ⟨G542, (e444.trans e544), s453, (some v442), (u454), (u455), w543, (e435.trans e544), rfl, hm431⟩
    · rintro σ' G549 H552 e553 ⟨s426, u427, u428, u429, w550, e551, rfl, hm431⟩
      have hm431 := forS_end hm431
      subst hm431
      have h555 := Rep.mono _ e551 h420
      obtain ⟨G556, w557, e558, h559⟩ := w550.freezeAt (i := 0) rfl n418
      have h560 := Rep.mono _ e558 h555
      have w557 : Wo G H [] G556 H552 [] := w557
      obtain ⟨a561, hx562, h⟩ := bindS h
      have h : a561 = r := Option.some.inj h
      subst h
      exact x_ret w557 (e_cb rc_maxL (ea_cons (e_var (R := (rL rI)) (x := s426) rfl h559) ea_nil)) hx562 (fun v9 H9 G9 w9 e9 r9 => k v9 H9 G9 w9.upE r9)
def m__law_pot_b2 (x682 : Int) (s672 : ((List Int) × Int)) : Option ((List Int) × Int) :=
  ((some ((decide ((0 : Int) < s672.2)) || (x682 == (0 : Int))) >>= fun b685 => bif b685 then (modM s672.2 (100 : Int) >>= fun a704 => appM s672.1 a704 >>= fun pot_here_705 => some pot_here_705) else some s672.1) >>= fun s696 => (fdivM s672.2 (100 : Int) >>= fun rest_719 => some ((s696, rest_719))))
def m__law_pot_b1 (script0 : (List Int)) (x592 : Int) (s579 : (List Int)) : Option (List Int) :=
  ((atI script0 x592 >>= fun t595 => some (if t595 < 0 then -t595 else t595)) >>= fun rest_596 => (some (60 : Int) >>= fun many_600 => (((powM (10 : Int) (18 : Int) >>= fun t604 => some (decide (rest_596 < t604))) >>= fun b605 => bif b605 then ((((mulM (2 : Int) rest_596 >>= fun t639 => (((atI script0 x592 >>= fun t637 => some (decide (t637 < (0 : Int)))) >>= fun t638 => some (if t638 = true then (1 : Int) else 0)) >>= fun t640 => some (t639 + t640))) >>= fun t642 => ((mulM (2 : Int) x592 >>= fun t641 => some ((48271 : Int) + t641)) >>= fun t643 => mulM t642 t643)) >>= fun t644 => modM t644 (2147483647 : Int)) >>= fun rest_645 => (((mulM rest_645 rest_645 >>= fun t649 => (mulM rest_645 x592 >>= fun t650 => some (t649 + t650))) >>= fun t651 => modM t651 (2147483629 : Int)) >>= fun rest_652 => (some (4 : Int) >>= fun many_656 => some (many_656, rest_652)))) else some (many_600, rest_596)) >>= fun s629 => (some s629.1 >>= fun n665 => rngM 0 n665 >>= fun xs667 => forS (m__law_pot_b2) xs667 (s579, s629.2) >>= fun s672 => some (s672.1)))))
def m__law_pot (script0 : (List Int)) : Option (List Int) :=
  (some ([]) >>= fun pot_here_563 => (some (if (63 : Int) < (script0.length : Int) then (63 : Int) else (script0.length : Int)) >>= fun n572 => rngM 0 n572 >>= fun xs574 => forS (m__law_pot_b1 script0) xs574 pot_here_563 >>= fun s579 => (some (s579.reverse) >>= fun pot_here_735 => some s579.reverse)))
theorem sc__law_pot : FnScope ["_law_script", "_law_pot_here", "_law_place", "_law_rest", "_law_many", "_law_k"] ["_law_script"] (defScope s__law_pot) := ⟨rfl, rfl, rfl, by decide +kernel, rfl, by decide +kernel, by decide +kernel⟩
theorem ok__law_pot (T : Tx K mg) : Fk P w K mg base CX0 1 "_law_pot" ["_law_script"] (PL (aC (rScr K) aN) rI (fun i => m__law_pot i.1)) := by
  obtain ⟨fd, F⟩ := T.def_ 10 rfl
  have nd := sc__law_pot.nd
  refine fk_mk T.toTx (x := "_law_pot") (T.glo 16 rfl) F (fun _ _ _ _ _ _ us hl => match us, hl with | [_], _ => rfl) (F.ok sc__law_pot (fun vs H Q E h => ?_) (fun cdv A outer s H vs Q E hr h => ?_))
  · obtain ⟨G, ⟨script0, ⟨⟩⟩, r, e0, ⟨vscript0, _, rfl, hscript0, rfl⟩, h, k⟩ := h
    rfl
  · obtain ⟨G, ⟨script0, ⟨⟩⟩, r, e0, ⟨vscript0, _, rfl, hscript0, rfl⟩, h, k⟩ := h
    have w0 := Wo.start e0
    have h : m__law_pot script0 = some r := h
    unfold m__law_pot at h
    refine ⟨_, PSs.nox (pss_cons (ps_set (i := 1) nd rfl (Or.inl rfl) (pe_lst pa_nil)) (pss_cons (ps_for PassesOwn.never rfl (pi_range1 (by rfl) (fr_range T) (pa_cons (pe_callB (call_min2 rfl) (by rfl) (fr_min T) (by decide +kernel) (pa_cons (pe_callB (r := rLn K) call_len_seq (by rfl) (fr_len T) (by decide +kernel) (pa_cons (pv 0) pa_nil)) (pa_cons pe_int pa_nil))) pa_nil)) (pg_name (i := 2) nd rfl (Or.inl rfl)) (pss_cons (ps_set (i := 3) nd rfl (Or.inl rfl) (pe_callB call_abs (by rfl) (fr_abs T) (by decide +kernel) (pa_cons (pe_ix (r := rIxL K) ix_list (pv 0) (pv 2) (fun _ _ => rfl)) pa_nil))) (pss_cons (ps_set (i := 4) nd rfl (Or.inl rfl) pe_int) (Evl.pss_cut (ps_if (pt_cmpR op_lt (pv 3) (pe_op op_pow pe_int pe_int) (nomark _)) (pss_cons (ps_set (i := 3) nd rfl (Or.inl rfl) (pe_op op_mod (pe_callTy call_int1 (by rfl) (fr_int T) (by decide +kernel) (pa_cons (pe_op op_mul (pe_op op_add (pe_op op_mul pe_int (pv 3)) (pe_callTy call_int1 (by rfl) (fr_int T) (by decide +kernel) (pa_cons (pe_cmpR op_lt (pe_ix (r := rIxL K) ix_list (pv 0) (pv 2) (fun _ _ => rfl)) pe_int (nomark _)) pa_nil))) (pe_op op_add pe_int (pe_op op_mul pe_int (pv 2)))) pa_nil)) pe_int)) (pss_cons (ps_set (i := 3) nd rfl (Or.inl rfl) (pe_op op_mod (pe_callTy call_int1 (by rfl) (fr_int T) (by decide +kernel) (pa_cons (pe_op op_add (pe_op op_mul (pv 3) (pv 3)) (pe_op op_mul (pv 3) (pv 2))) pa_nil)) pe_int)) (pss_cons (ps_set (i := 4) nd rfl (Or.inl rfl) pe_int) pss_nil))) pss_nil) (pss_cons (ps_for PassesOwn.never rfl (pi_range1 (by rfl) (fr_range T) (pa_cons (pv 4) pa_nil)) (pg_name (i := 5) nd rfl (Or.inl rfl)) (Evl.pss_cut (ps_if (PW.pt (pw_or (pt_cmpR op_gt (pv 3) pe_int (nomark _)) (pw_or1 (pt_cmpR op_eq (pv 5) pe_int (nomark _))))) (pss_cons (ps_expr (pe_bm PySem.F.plainAttrs_list PySem.F.slot_list_append PySem.F.type_list_append mt_append (pv 1) (pa_cons (pe_op op_mod (pe_callTy call_int1 (by rfl) (fr_int T) (by decide +kernel) (pa_cons (pv 3) pa_nil)) pe_int) pa_nil))) pss_nil) pss_nil) (pss_cons (ps_set (i := 3) nd rfl (Or.inl rfl) (pe_op op_fdiv (pv 3) pe_int)) pss_nil))) pss_nil))))) (pss_cons (ps_expr (pe_bm0 PySem.F.plainAttrs_list PySem.F.slot_list_reverse PySem.F.type_list_reverse mt_reverse (pv 1))) (pss_cons (ps_ret (pv 1)) pss_nil)))), ?_⟩
    obtain ⟨pot_here_563, hx564, h⟩ := bindS h
    refine x_setL w0 (el_disp (R := rI) eal_nil) hx564 ?_
    intro p567 H565 G568 n569 w566 e570
    have h571 := Rep.mono _ e570 hscript0
    obtain ⟨n572, hx573, h⟩ := bindS h
    obtain ⟨xs574, hx575, h⟩ := bindS h
    obtain ⟨t577, hx578, h⟩ := bindS h
    refine x_forR w566 (ea_cons (Sim.E.is (e_cb rc_min2 (ea_cons (e_cb rc_lenScr (ea_cons (e_var (R := (rScr K)) (x := script0) rfl h571) ea_nil)) (ea_cons e_int ea_nil))) hx573) ea_nil) rfl hx575 (fun i G' H' σ' => ∃ s579 : (List Int), ∃ u580 : Option V, ∃ u581 : Option V, ∃ u582 : Option V, ∃ u583 : Option V, Wo G H [] G' H' [(p567, cL rI s579)] ∧ Evl.Ex G568 G' ∧ σ' = [some vscript0, some (V.ref p567), u582, u583, u581, u580] ∧ forS (m__law_pot_b1 script0) (xs574.drop i) s579 = some t577) ?_ ?_ ?_
    · intro G' H' w' e'
      exact ⟨pot_here_563, (none), (none), (none), (none), w', e', rfl, hx578⟩
    · rintro i591 x592 σ' G587 H590 hx593 ⟨s579, u580, u581, u582, u583, w588, e589, rfl, hm585⟩
      obtain ⟨q586, hb584, hm585⟩ := forS_at hx593 hm585
      have h594 := Rep.mono _ e589 h571
      refine g_name ?_
      unfold m__law_pot_b1 at hb584
      obtain ⟨rest_596, hx597, hb584⟩ := bindS hb584
      refine x_setI w588 (e_cb rc_abs (ea_cons (e_op rr_ixScr (e_var (R := (rScr K)) (x := script0) rfl h594) (e_var (R := rI) (x := x592) rfl rfl)) ea_nil)) (by first | (simp only [be1, bs1, ba1] at hx597 ⊢; exact hx597) | exact hx597) ?_
      intro H598 w599
      obtain ⟨many_600, hx601, hb584⟩ := bindS hb584
      refine x_setI w599 e_int hx601 ?_
      intro H602 w603
      obtain ⟨s629, hx630, hb584⟩ := bindS hb584
      refine o_cut (fun σ' H' => ∃ G' : Hp, Wo G H [] G' H' [(p567, cL rI s579)] ∧ Evl.Ex G587 G' ∧ σ' = [some vscript0, some (V.ref p567), some (V.int x592), some (V.int s629.2), some (V.int s629.1), u580]) ?_ ?_
      · obtain ⟨b605, hx634, hx630⟩ := bindS hx630
        refine x_if w603 (et_T (e_op rr_lt (e_var (R := rI) (x := rest_596) rfl rfl) (e_op rr_pow e_int e_int))) (by first | (simp only [be1, bs1, ba1] at hx634 ⊢; exact hx634) | exact hx634) ?_ ?_
        · intro hbb605 H635 w636
          subst hbb605
          have hx630 := bifT hx630
          obtain ⟨rest_645, hx646, hx630⟩ := bindS hx630
          refine x_setI w636 (e_op rr_mod (e_cb rc_intI (ea_cons (e_op rr_mul (e_op rr_add (e_op rr_mul e_int (e_var (R := rI) (x := rest_596) rfl rfl)) (e_cb rc_intB (ea_cons (e_op rr_lt (e_op rr_ixScr (e_var (R := (rScr K)) (x := script0) rfl h594) (e_var (R := rI) (x := x592) rfl rfl)) e_int) ea_nil))) (e_op rr_add e_int (e_op rr_mul e_int (e_var (R := rI) (x := x592) rfl rfl)))) ea_nil)) e_int) (by first | (simp only [be1, bs1, ba1] at hx646 ⊢; exact hx646) | exact hx646) ?_
          intro H647 w648
          obtain ⟨rest_652, hx653, hx630⟩ := bindS hx630
          refine x_setI w648 (e_op rr_mod (e_cb rc_intI (ea_cons (e_op rr_add (e_op rr_mul (e_var (R := rI) (x := rest_645) rfl rfl) (e_var (R := rI) (x := rest_645) rfl rfl)) (e_op rr_mul (e_var (R := rI) (x := rest_645) rfl rfl) (e_var (R := rI) (x := x592) rfl rfl))) ea_nil)) e_int) (by first | (simp only [be1, bs1, ba1] at hx653 ⊢; exact hx653) | exact hx653) ?_
          intro H654 w655
          obtain ⟨many_656, hx657, hx630⟩ := bindS hx630
          refine x_setI w655 e_int hx657 ?_
          intro H658 w659
          refine x_next ?_
          have hx630 : (many_656, rest_652) = s629 := Option.some.inj hx630
          subst hx630
          exact ⟨G587, w659, (Evl.Ex.refl _), rfl⟩
        · intro hbb605 H660 w661
          subst hbb605
          have hx630 := bifF hx630
          refine x_next ?_
          have hx630 : (many_600, rest_596) = s629 := Option.some.inj hx630
          subst hx630
          exact ⟨G587, w661, (Evl.Ex.refl _), rfl⟩
      · rintro σ' H664 ⟨G662, w632, e631, rfl⟩
        have h663 := Rep.mono _ e631 h594
        obtain ⟨n665, hx666, hb584⟩ := bindS hb584
        obtain ⟨xs667, hx668, hb584⟩ := bindS hb584
        obtain ⟨t670, hx671, hb584⟩ := bindS hb584
        refine x_forR w632 (ea_cons (Sim.E.is (e_var (R := rI) (x := s629.1) rfl rfl) hx666) ea_nil) rfl hx668 (fun i G' H' σ' => ∃ s672 : ((List Int) × Int), ∃ u673 : Option V, Wo G H [] G' H' [(p567, cL rI s672.1)] ∧ Evl.Ex G662 G' ∧ σ' = [some vscript0, some (V.ref p567), some (V.int x592), some (V.int s672.2), some (V.int s629.1), u673] ∧ forS (m__law_pot_b2) (xs667.drop i) s672 = some t670) ?_ ?_ ?_
        · intro G' H' w' e'
          exact ⟨(s579, s629.2), (u580), w', e', rfl, hx671⟩
        · rintro i681 x682 σ' G677 H680 hx683 ⟨s672, u673, w678, e679, rfl, hm675⟩
          obtain ⟨q676, hb674, hm675⟩ := forS_at hx683 hm675
          have h684 := Rep.mono _ e679 h663
          refine g_name ?_
          unfold m__law_pot_b2 at hb674
          obtain ⟨s696, hx697, hb674⟩ := bindS hb674
          refine o_cut (fun σ' H' => ∃ G' : Hp, Wo G H [] G' H' [(p567, cL rI s696)] ∧ Evl.Ex G677 G' ∧ σ' = [some vscript0, some (V.ref p567), some (V.int x592), some (V.int s672.2), some (V.int s629.1), some (V.int x682)]) ?_ ?_
          · obtain ⟨b685, hx701, hx697⟩ := bindS hx697
            refine x_if w678 (et_orP (et_T (e_op rr_gt (e_var (R := rI) (x := s672.2) rfl rfl) e_int)) (et_T (e_op rr_eqI (e_var (R := rI) (x := x682) rfl rfl) e_int))) hx701 ?_ ?_
            · intro hbb685 H702 w703
              subst hbb685
              have hx697 := bifT hx697
              obtain ⟨a704, hx706, hx697⟩ := bindS hx697
              obtain ⟨pot_here_705, hx707, hx697⟩ := bindS hx697
              obtain ⟨hs708, rfl⟩ := appM_ok hx707
              refine x_app (j := 0) w703 rfl hs708 rfl (e_op rr_mod (e_cb rc_intI (ea_cons (e_var (R := rI) (x := s672.2) rfl rfl) ea_nil)) e_int) (by first | (simp only [be1, bs1, ba1] at hx706 ⊢; exact hx706) | exact hx706) ?_
              intro H709 G710 w711 e712
              have h713 := Rep.mono _ e712 h684
              have w711 : Wo G H [] G710 H709 [(p567, cL rI (s672.1 ++ [a704]))] := w711
              refine x_next ?_
              have hx697 : (s672.1 ++ [a704]) = s696 := Option.some.inj hx697
              subst hx697
              exact ⟨G710, w711, e712, rfl⟩
            · intro hbb685 H714 w715
              subst hbb685
              have hx697 := bifF hx697
              refine x_next ?_
              have hx697 : s672.1 = s696 := Option.some.inj hx697
              subst hx697
              exact ⟨G677, w715, (Evl.Ex.refl _), rfl⟩
          · rintro σ' H718 ⟨G716, w699, e698, rfl⟩
            have h717 := Rep.mono _ e698 h684
            obtain ⟨rest_719, hx720, hb674⟩ := bindS hb674
            refine x_setI w699 (e_op rr_fdiv (e_var (R := rI) (x := s672.2) rfl rfl) e_int) (by first | (simp only [be1, bs1, ba1] at hx720 ⊢; exact hx720) | exact hx720) ?_
            intro H721 w722
            refine x_next ?_
            have hb674 : (s696, rest_719) = q676 := Option.some.inj hb674
            subst hb674
            exact ⟨G716, (s696, rest_719), (some (V.int x682)), w722, (e679.trans e698), rfl, hm675⟩
        · rintro σ' G723 H726 ⟨s672, u673, w724, e725, rfl, hm675⟩
          have hm675 := forS_end hm675
          subst hm675
          have h728 := Rep.mono _ e725 h663
          refine x_next ?_
          have hb584 : s672.1 = q586 := Option.some.inj hb584
          subst hb584
          exact ⟨G723, s672.1, (u673), (some (V.int s629.1)), (some (V.int x592)), (some (V.int s672.2)), w724, ((e589.trans e631).trans e725), rfl, hm585⟩
    · rintro σ' G729 H732 ⟨s579, u580, u581, u582, u583, w730, e731, rfl, hm585⟩
      have hm585 := forS_end hm585
      subst hm585
      have h734 := Rep.mono _ e731 h571
      refine x_drop ?_
      obtain ⟨pot_here_735, hx736, h⟩ := bindS h
      cases hx736
      refine o_bm0 (j := 0) w730 rfl rfl (c_rev (j := 0) w730 rfl ?_)
      intro H737 w738
      have w738 : Wo G H [] G729 H737 [(p567, cL rI s579.reverse)] := w738
      have h : s579.reverse = r := Option.some.inj h
      subst h
      refine x_retO (o_var rfl ?_)
      exact k _ _ _ n569 w738.upE (w738.sub1 (i := 0) rfl)
def m__law_draw (pot_here0 : (List Int)) (many0 : Int) : Option (Int × (List Int)) :=
  (some ((pot_here0.length : Int) == (0 : Int)) >>= fun b739 => bif b739 then (some (0 : Int) >>= fun a743 => some (a743, pot_here0)) else (popM pot_here0 >>= fun x747 => (some many0 >>= fun x754 => (modM x747.1 x754 >>= fun x758 => some (x758, x747.2)))))
theorem sc__law_draw : FnScope ["_law_pot_here", "_law_many"] ["_law_pot_here", "_law_many"] (defScope s__law_draw) := ⟨rfl, rfl, rfl, by decide +kernel, rfl, by decide +kernel, by decide +kernel⟩
theorem ok__law_draw (T : Tx K mg) : Fk P w K mg base CX0 1 "_law_draw" ["_law_pot_here", "_law_many"] (P1 (aC rI aN) rI rI (fun ys i => m__law_draw ys i.1)) := by
  obtain ⟨fd, F⟩ := T.def_ 11 rfl
  have nd := sc__law_draw.nd
  refine fk_mk T.toTx (x := "_law_draw") (T.glo 17 rfl) F (fun _ _ _ _ _ _ us hl => match us, hl with | [_, _], _ => rfl) (F.ok sc__law_draw (fun vs H Q E h => ?_) (fun cdv A outer s H vs Q E hr h => ?_))
  · obtain ⟨G, ⟨l, ⟨many0, ⟨⟩⟩⟩, pot_here0, r, k', ⟨_, _, rfl, rfl, ⟨vmany0, _, rfl, hmany0, rfl⟩⟩, wd, h, k⟩ := h
    rfl
  · obtain ⟨G, ⟨l, ⟨many0, ⟨⟩⟩⟩, pot_here0, r, k', ⟨_, _, rfl, rfl, ⟨vmany0, _, rfl, hmany0, rfl⟩⟩, wd, h, k⟩ := h
    cases hmany0
    have e0 : Evl.Ex G H := wd.ex
    have w0 : Wo G H [l] G H _ := Wo.startC wd
    have h : m__law_draw pot_here0 many0 = some (r, k') := h
    unfold m__law_draw at h
    refine ⟨_, PSs.nox (pss_cons (ps_if (pt_cmpR op_eq (pe_callB (r := rLn K) call_len_seq (by rfl) (fr_len T) (by decide +kernel) (pa_cons (pv 0) pa_nil)) pe_int (nomark _)) (pss_cons (ps_ret pe_int) pss_nil) pss_nil) (pss_cons (ps_ret (pe_op op_mod (pe_callTy call_int1 (by rfl) (fr_int T) (by decide +kernel) (pa_cons (pe_bm0 PySem.F.plainAttrs_list PySem.F.slot_list_pop PySem.F.type_list_pop mt_pop (pv 0)) pa_nil)) (pv 1))) pss_nil)), ?_⟩
    obtain ⟨b739, hx740, h⟩ := bindS h
    refine x_if w0 (et_T (e_op rr_eqI (e_cb rc_lenL (ea_cons (e_var (R := (rL rI)) (x := pot_here0) rfl (w0.rlAt (i := 0) rfl)) ea_nil)) e_int)) hx740 ?_ ?_
    · intro hbb739 H741 w742
      subst hbb739
      have h := bifT h
      obtain ⟨a743, hx744, h⟩ := bindS h
      obtain ⟨h8, h9⟩ : a743 = r ∧ pot_here0 = k' := Prod.mk.inj (Option.some.inj h)
      subst h8
      subst h9
      exact x_ret w742 e_int hx744 (fun v9 H9 G9 w9 e9 r9 => k v9 H9 G9 w9.f (w9.sub1 (i := 0) rfl) r9)
    · intro hbb739 H745 w746
      subst hbb739
      have h := bifF h
      refine x_next ?_
      refine x_retO ?_
      refine o_op ?_
      refine o_cb ?_
      refine o_cons ?_
      obtain ⟨x747, hx748, h⟩ := bindS h
      refine o_bm0 (j := 0) w746 rfl rfl (c_pop (j := 0) w746 rfl hx748 ?_)
      intro v749 H750 w751 r752
      cases r752
      have w751 : Wo G H [l] G H750 [(l, cL rI x747.2)] := w751
      refine o_nil ?_
      refine Or.inl ⟨_, rfl, ?_⟩
      obtain ⟨x754, hx755, h⟩ := bindS h
      refine c_i w751 (e_var (R := rI) (x := many0) rfl rfl) hx755 ?_
      intro H756 w757
      obtain ⟨x758, hx759, h⟩ := bindS h
      refine c_rr rr_mod w757 rfl rfl hx759 ?_
      intro u760 H761 G762 w763 e764 r765
      cases r765
      obtain ⟨h8, h9⟩ : x758 = r ∧ x747.2 = k' := Prod.mk.inj (Option.some.inj h)
      subst h8
      subst h9
      exact k _ _ _ w763.f (w763.sub1 (i := 0) rfl) rfl
def m__law_masks_b2 (x844 : (Int × (List Int))) (x877 : Int) (s867 : (List Int)) : Option (List Int) :=
  ((some (!s867.any fun z => z == (Builtin.bitAnd x877 x844.1)) >>= fun b885 => bif b885 then (some (Builtin.bitAnd x877 x844.1) >>= fun a904 => appM s867 a904 >>= fun more_905 => some more_905) else some s867) >>= fun s896 => some (s896))
def m__law_masks_b1 (most0 : Int) (x837 : Int) (s822 : ((List Int) × (List Int))) : Option ((List Int) × (List Int)) :=
  (some (32 : Int) >>= fun x839 => (m__law_draw s822.2 x839 >>= fun x844 => (some s822.1 >>= fun more_853 => (some s822.1 >>= fun xs862 => forS (m__law_masks_b2 x844) xs862 more_853 >>= fun s867 => ((some (decide ((s867.length : Int) ≤ most0)) >>= fun b931 => bif b931 then (some s867 >>= fun masks_here_952 => some masks_here_952) else some s822.1) >>= fun s942 => some ((s942, x844.2)))))))
def m__law_masks_b3 (x1011 : Int) (s1001 : ((List Int) × ((List Int) × (List Int)))) : Option ((List Int) × ((List Int) × (List Int))) :=
  (some (s1001.2.2.length : Int) >>= fun x1013 => (m__law_draw s1001.2.1 x1013 >>= fun x1018 => (popAtM s1001.2.2 x1018.1 >>= fun x1027 => (appM s1001.1 x1027.1 >>= fun masks_here_1034 => some ((masks_here_1034, (x1018.2, x1027.2)))))))
def m__law_masks (pot_here0 : (List Int)) (most0 : Int) : Option ((List Int) × (List Int)) :=
  (some ([(31 : Int)]) >>= fun masks_here_766 => (some (6 : Int) >>= fun x774 => (m__law_draw pot_here0 x774 >>= fun x779 => (some (1 : Int) >>= fun x789 => (some (x779.1 + x789) >>= fun x793 => (some (6 : Int) >>= fun x803 => (modM x793 x803 >>= fun x807 => (rngM 0 x807 >>= fun xs817 => forS (m__law_masks_b1 most0) xs817 (masks_here_766, x779.2) >>= fun s822 => ((if s822.1.length < 64 then some (srtI s822.1) else none) >>= fun rest_972 => (some (rest_972.length : Int) >>= fun size_981 => (some ([]) >>= fun masks_here_985 => (some size_981 >>= fun n994 => rngM 0 n994 >>= fun xs996 => forS (m__law_masks_b3) xs996 (masks_here_985, (s822.2, rest_972)) >>= fun s1001 => some (s1001.1, s1001.2.1)))))))))))))
theorem sc__law_masks : FnScope ["_law_pot_here", "_law_most", "_law_masks_here", "_law_k", "_law_rest", "_law_size", "_law_mask", "_law_more", "_law_old"] ["_law_pot_here", "_law_most"] (defScope s__law_masks) := ⟨rfl, rfl, rfl, by decide +kernel, rfl, by decide +kernel, by decide +kernel⟩
theorem ok__law_masks (T : Tx K mg) : Fk P w K mg base CX0 2 "_law_masks" ["_law_pot_here", "_law_most"] (P1L (aC rI aN) rI rI (fun ys i => m__law_masks ys i.1)) := by
  obtain ⟨fd__law_draw, G__law_draw, b__law_draw, k__law_draw, g__law_draw⟩ := ok__law_draw (w := w) (base := base) T
  obtain ⟨fd, F⟩ := T.def_ 13 rfl
  have nd := sc__law_masks.nd
  refine fk_mk T.toTx (x := "_law_masks") (T.glo 19 rfl) F (fun _ _ _ _ _ _ us hl => match us, hl with | [_, _], _ => rfl) (F.ok sc__law_masks (fun vs H Q E h => ?_) (fun cdv A outer s H vs Q E hr h => ?_))
  · obtain ⟨G, ⟨l, ⟨most0, ⟨⟩⟩⟩, pot_here0, r, k', ⟨_, _, rfl, rfl, ⟨vmost0, _, rfl, hmost0, rfl⟩⟩, wd, h, k⟩ := h
    rfl
  · obtain ⟨G, ⟨l, ⟨most0, ⟨⟩⟩⟩, pot_here0, r, k', ⟨_, _, rfl, rfl, ⟨vmost0, _, rfl, hmost0, rfl⟩⟩, wd, h, k⟩ := h
    cases hmost0
    have e0 : Evl.Ex G H := wd.ex
    have w0 : Wo G H [l] G H _ := Wo.startC wd
    have h : m__law_masks pot_here0 most0 = some (r, k') := h
    unfold m__law_masks at h
    refine ⟨_, PSs.nox (pss_cons (ps_set (i := 2) nd rfl (Or.inl rfl) (pe_lst (pa_cons pe_int pa_nil))) (pss_cons (ps_for PassesOwn.never rfl (pi_range1 (by rfl) (fr_range T) (pa_cons (pe_op op_mod (pe_callTy call_int1 (by rfl) (fr_int T) (by decide +kernel) (pa_cons (pe_op op_add (pe_call G__law_draw (hr.mono (by decide)) rfl g__law_draw k__law_draw b__law_draw .nil pass0 (pa_cons (pv 0) (pa_cons pe_int pa_nil))) pe_int) pa_nil)) pe_int) pa_nil)) (pg_name (i := 3) nd rfl (Or.inl rfl)) (pss_cons (ps_set (i := 6) nd rfl (Or.inl rfl) (pe_call G__law_draw (hr.mono (by decide)) rfl g__law_draw k__law_draw b__law_draw .nil pass0 (pa_cons (pv 0) (pa_cons pe_int pa_nil)))) (pss_cons (ps_set (i := 7) nd rfl (Or.inl rfl) (pe_callTy (r := rLs K) call_list_of (by rfl) (fr_list T) (by decide +kernel) (pa_cons (pv 2) pa_nil))) (pss_cons (ps_for PassesOwn.never rfl (pi_list (pv 2)) (pg_name (i := 8) nd rfl (Or.inl rfl)) (Evl.pss_cut (ps_if (pt_cmpR (r := rIn K true) op_notIn_seq (pe_op op_and (pv 8) (pv 6)) (pv 7) (by rfl)) (pss_cons (ps_expr (pe_bm PySem.F.plainAttrs_list PySem.F.slot_list_append PySem.F.type_list_append mt_append (pv 7) (pa_cons (pe_op op_and (pv 8) (pv 6)) pa_nil))) pss_nil) pss_nil) pss_nil)) (Evl.pss_cut (ps_if (pt_cmpR op_le (pe_callB (r := rLn K) call_len_seq (by rfl) (fr_len T) (by decide +kernel) (pa_cons (pv 7) pa_nil)) (pv 1) (nomark _)) (pss_cons (ps_set (i := 2) nd rfl (Or.inl rfl) (pe_callTy (r := rLs K) call_list_of (by rfl) (fr_list T) (by decide +kernel) (pa_cons (pv 7) pa_nil))) pss_nil) pss_nil) pss_nil))))) (pss_cons (ps_set (i := 4) nd rfl (Or.inl rfl) (pe_callB (r := rSorted K) cr_sorted (by rfl) (fr_sorted T) (by decide +kernel) (pa_cons (pv 2) pa_nil))) (pss_cons (ps_set (i := 5) nd rfl (Or.inl rfl) (pe_callB (r := rLn K) call_len_seq (by rfl) (fr_len T) (by decide +kernel) (pa_cons (pv 4) pa_nil))) (pss_cons (ps_set (i := 2) nd rfl (Or.inl rfl) (pe_lst pa_nil)) (pss_cons (ps_for PassesOwn.never rfl (pi_range1 (by rfl) (fr_range T) (pa_cons (pv 5) pa_nil)) (pg_name (i := 3) nd rfl (Or.inl rfl)) (pss_cons (ps_expr (pe_bm PySem.F.plainAttrs_list PySem.F.slot_list_append PySem.F.type_list_append mt_append (pv 2) (pa_cons (pe_bm PySem.F.plainAttrs_list PySem.F.slot_list_pop PySem.F.type_list_pop mt_popAt (pv 4) (pa_cons (pe_call G__law_draw (hr.mono (by decide)) rfl g__law_draw k__law_draw b__law_draw .nil pass0 (pa_cons (pv 0) (pa_cons (pe_callB (r := rLn K) call_len_seq (by rfl) (fr_len T) (by decide +kernel) (pa_cons (pv 4) pa_nil)) pa_nil))) pa_nil)) pa_nil))) pss_nil)) (pss_cons (ps_ret (pv 2)) pss_nil))))))), ?_⟩
    obtain ⟨masks_here_766, hx767, h⟩ := bindS h
    refine x_set w0 (EL.e (el_disp (eal_cons e_int eal_nil))) hx767 ?_
    intro v770 H768 G771 w769 e772 h773
    refine o_forR ?_
    refine o_cons ?_
    refine o_op ?_
    refine o_cb ?_
    refine o_cons ?_
    refine o_op ?_
    refine o_call ?_
    refine o_cons ?_
    refine o_var rfl ?_
    refine o_cons ?_
    obtain ⟨x774, hx775, h⟩ := bindS h
    refine c_i w769 e_int hx775 ?_
    intro H776 w777
    refine o_nil ?_
    obtain ⟨x779, hx780, h⟩ := bindS h
    refine c_p1 (i := 0) (j := (x774, ())) w777 rfl ⟨_, _, rfl, rfl, rfl⟩ hx780 ?_
    intro u781 H782 G783 w784 e785 r786
    have h787 := Rep.mono _ e785 h773
    cases r786
    have w784 : Wo G H [l] G783 H782 [(l, cL rI x779.2)] := w784
    obtain ⟨x789, hx790, h⟩ := bindS h
    refine c_i w784 e_int hx790 ?_
    intro H791 w792
    obtain ⟨x793, hx794, h⟩ := bindS h
    refine c_rr rr_add w792 rfl rfl hx794 ?_
    intro u795 H796 G797 w798 e799 r800
    have h801 := Rep.mono _ e799 h787
    cases r800
    refine o_nil ?_
    refine Or.inl ⟨_, rfl, ?_⟩
    obtain ⟨x803, hx804, h⟩ := bindS h
    refine c_i w798 e_int hx804 ?_
    intro H805 w806
    obtain ⟨x807, hx808, h⟩ := bindS h
    refine c_rr rr_mod w806 rfl rfl hx808 ?_
    intro u809 H810 G811 w812 e813 r814
    have h815 := Rep.mono _ e813 h801
    cases r814
    refine o_nil ?_
    obtain ⟨xs817, hx818, h⟩ := bindS h
    obtain ⟨t820, hx821, h⟩ := bindS h
    refine v_forR w812 hx818 (fun i G' H' σ' => ∃ s822 : ((List Int) × (List Int)), ∃ v823 : V, ∃ u825 : Option V, ∃ u826 : Option V, ∃ u827 : Option V, ∃ u828 : Option V, Wo G H [l] G' H' [(l, cL rI s822.2)] ∧ Evl.Ex G811 G' ∧ σ' = [some (V.ref l), some (V.int most0), some v823, u825, none, none, u826, u827, u828] ∧ (rL rI).r G' v823 s822.1 ∧ forS (m__law_masks_b1 most0) (xs817.drop i) s822 = some t820) ?_ ?_ ?_
    · exact ⟨(masks_here_766, x779.2), v770, (none), (none), (none), (none), w812, (Evl.Ex.refl _), rfl, (Rep.mono _ (Evl.Ex.refl _) h815), hx821⟩
    · rintro i836 x837 σ' G832 H835 hx838 ⟨s822, v823, u825, u826, u827, u828, w833, e834, rfl, h824, hm830⟩
      obtain ⟨q831, hb829, hm830⟩ := forS_at hx838 hm830
      refine g_name ?_
      unfold m__law_masks_b1 at hb829
      refine x_setO ?_
      refine o_call ?_
      refine o_cons ?_
      refine o_var rfl ?_
      refine o_cons ?_
      obtain ⟨x839, hx840, hb829⟩ := bindS hb829
      refine c_i w833 e_int hx840 ?_
      intro H841 w842
      refine o_nil ?_
      obtain ⟨x844, hx845, hb829⟩ := bindS hb829
      refine c_p1 (i := 0) (j := (x839, ())) w842 rfl ⟨_, _, rfl, rfl, rfl⟩ hx845 ?_
      intro u846 H847 G848 w849 e850 r851
      have h852 := Rep.mono _ e850 h824
      cases r851
      have w849 : Wo G H [l] G848 H847 [(l, cL rI x844.2)] := w849
      obtain ⟨more_853, hx854, hb829⟩ := bindS hb829
      refine x_setL w849 (el_cb rc_listL (ea_cons (e_var (R := (rL rI)) (x := s822.1) rfl h852) ea_nil)) hx854 ?_
      intro p857 H855 G858 n859 w856 e860
      have h861 := Rep.mono _ e860 h852
      obtain ⟨xs862, hx863, hb829⟩ := bindS hb829
      obtain ⟨t865, hx866, hb829⟩ := bindS hb829
      refine x_forL w856 (e_var (R := (rL rI)) (x := s822.1) rfl h861) hx863 (fun i G' H' σ' => ∃ s867 : (List Int), ∃ u868 : Option V, Wo G H [l] G' H' [(p857, cL rI s867), (l, cL rI x844.2)] ∧ Evl.Ex G858 G' ∧ σ' = [some (V.ref l), some (V.int most0), some v823, some (V.int x837), none, none, some (V.int x844.1), some (V.ref p857), u868] ∧ forS (m__law_masks_b2 x844) (xs862.drop i) s867 = some t865) (fun _ _ _ _ ⟨_, _, w, _⟩ => w.ex) ?_ ?_ ?_
      · intro G' H' w' e'
        exact ⟨more_853, (u828), w', e', rfl, hx866⟩
      · rintro G879 e880 i876 x877 v881 σ' G872 H875 hx878 e883 ⟨s867, u868, w873, e874, rfl, hm870⟩ r882
        obtain ⟨q871, hb869, hm870⟩ := forS_at hx878 hm870
        have h884 := Rep.mono _ e874 h861
        refine g_name ?_
        cases r882
        unfold m__law_masks_b2 at hb869
        obtain ⟨s896, hx897, hb869⟩ := bindS hb869
        refine o_cut (fun σ' H' => ∃ G' : Hp, Wo G H [l] G' H' [(p857, cL rI s896), (l, cL rI x844.2)] ∧ Evl.Ex G872 G' ∧ σ' = [some (V.ref l), some (V.int most0), some v823, some (V.int x837), none, none, some (V.int x844.1), some (V.ref p857), some (V.int x877)]) ?_ ?_
        · obtain ⟨b885, hx901, hx897⟩ := bindS hx897
          refine x_if w873 (et_T (e_op (rr_ninL flI) (e_op rr_and (e_var (R := rI) (x := x877) rfl rfl) (e_var (R := rI) (x := x844.1) rfl rfl)) (e_var (R := (rL rI)) (x := s867) rfl (w873.rlAt (i := 0) rfl)))) hx901 ?_ ?_
          · intro hbb885 H902 w903
            subst hbb885
            have hx897 := bifT hx897
            obtain ⟨a904, hx906, hx897⟩ := bindS hx897
            obtain ⟨more_905, hx907, hx897⟩ := bindS hx897
            obtain ⟨hs908, rfl⟩ := appM_ok hx907
            refine x_app (j := 0) w903 rfl hs908 rfl (e_op rr_and (e_var (R := rI) (x := x877) rfl rfl) (e_var (R := rI) (x := x844.1) rfl rfl)) hx906 ?_
            intro H909 G910 w911 e912
            have h913 := Rep.mono _ e912 h884
            have w911 : Wo G H [l] G910 H909 [(p857, cL rI (s867 ++ [a904])), (l, cL rI x844.2)] := w911
            refine x_next ?_
            have hx897 : (s867 ++ [a904]) = s896 := Option.some.inj hx897
            subst hx897
            exact ⟨G910, w911, e912, rfl⟩
          · intro hbb885 H914 w915
            subst hbb885
            have hx897 := bifF hx897
            refine x_next ?_
            have hx897 : s867 = s896 := Option.some.inj hx897
            subst hx897
            exact ⟨G872, w915, (Evl.Ex.refl _), rfl⟩
        · rintro σ' H918 ⟨G916, w899, e898, rfl⟩
          have h917 := Rep.mono _ e898 h884
          refine x_next ?_
          have hb869 : s896 = q871 := Option.some.inj hb869
          subst hb869
          exact ⟨G916, (e883.trans e898), s896, (some (V.int x877)), w899, (e874.trans e898), rfl, hm870⟩
      · rintro σ' G919 H922 e923 ⟨s867, u868, w920, e921, rfl, hm870⟩
        have hm870 := forS_end hm870
        subst hm870
        have h925 := Rep.mono _ e921 h861
        obtain ⟨G926, w927, e928, h929⟩ := w920.freezeAt (i := 0) rfl n859
        have h930 := Rep.mono _ e928 h925
        have w927 : Wo G H [l] G926 H922 [(l, cL rI x844.2)] := w927
        obtain ⟨s942, hx943, hb829⟩ := bindS hb829
        refine o_cut (fun σ' H' => ∃ v944 : V, ∃ G' : Hp, Wo G H [l] G' H' [(l, cL rI x844.2)] ∧ Evl.Ex G926 G' ∧ σ' = [some (V.ref l), some (V.int most0), some v944, some (V.int x837), none, none, some (V.int x844.1), some (V.ref p857), u868] ∧ (rL rI).r G' v944 s942) ?_ ?_
        · obtain ⟨b931, hx949, hx943⟩ := bindS hx943
          refine x_if w927 (et_T (e_op rr_le (e_cb rc_lenL (ea_cons (e_var (R := (rL rI)) (x := s867) rfl (Rep.mono _ w927.ex h929)) ea_nil)) (e_var (R := rI) (x := most0) rfl rfl))) hx949 ?_ ?_
          · intro hbb931 H950 w951
            subst hbb931
            have hx943 := bifT hx943
            obtain ⟨masks_here_952, hx953, hx943⟩ := bindS hx943
            refine x_set w951 (EL.e (el_cb rc_listL (ea_cons (e_var (R := (rL rI)) (x := s867) rfl h929) ea_nil))) hx953 ?_
            intro v956 H954 G957 w955 e958 h959
            have h960 := Rep.mono _ e958 h930
            have h961 := Rep.mono _ e958 h929
            refine x_next ?_
            have hx943 : masks_here_952 = s942 := Option.some.inj hx943
            subst hx943
            exact ⟨v956, G957, w955, e958, rfl, h959⟩
          · intro hbb931 H962 w963
            subst hbb931
            have hx943 := bifF hx943
            refine x_next ?_
            have hx943 : s822.1 = s942 := Option.some.inj hx943
            subst hx943
            exact ⟨v823, G926, w963, (Evl.Ex.refl _), rfl, h930⟩
        · rintro σ' H966 ⟨v944, G964, w947, e946, rfl, h945⟩
          have h965 := Rep.mono _ e946 h929
          refine x_next ?_
          have hb829 : (s942, x844.2) = q831 := Option.some.inj hb829
          subst hb829
          exact ⟨G964, (s942, x844.2), v944, (some (V.int x837)), (some (V.int x844.1)), (some (V.ref p857)), (u868), w947, (((((e834.trans e850).trans e860).trans e921).trans e928).trans e946), rfl, h945, hm830⟩
    · rintro σ' G967 H970 ⟨s822, v823, u825, u826, u827, u828, w968, e969, rfl, h824, hm830⟩
      have hm830 := forS_end hm830
      subst hm830
      obtain ⟨rest_972, hx973, h⟩ := bindS h
      refine x_setL w968 (el_cb rc_sorted (ea_cons (e_var (R := (rL rI)) (x := s822.1) rfl h824) ea_nil)) hx973 ?_
      intro p976 H974 G977 n978 w975 e979
      have h980 := Rep.mono _ e979 h824
      obtain ⟨size_981, hx982, h⟩ := bindS h
      refine x_setI w975 (Sim.E.s scI (e_cb rc_lenL (ea_cons (e_var (R := (rL rI)) (x := rest_972) rfl (w975.rlAt (i := 0) rfl)) ea_nil))) hx982 ?_
      intro H983 w984
      obtain ⟨masks_here_985, hx986, h⟩ := bindS h
      refine x_setL w984 (el_disp (R := rI) eal_nil) hx986 ?_
      intro p989 H987 G990 n991 w988 e992
      have h993 := Rep.mono _ e992 h980
      obtain ⟨n994, hx995, h⟩ := bindS h
      obtain ⟨xs996, hx997, h⟩ := bindS h
      obtain ⟨t999, hx1000, h⟩ := bindS h
      refine x_forR w988 (ea_cons (Sim.E.is (e_var (R := rI) (x := size_981) rfl rfl) hx995) ea_nil) rfl hx997 (fun i G' H' σ' => ∃ s1001 : ((List Int) × ((List Int) × (List Int))), ∃ u1002 : Option V, Wo G H [l] G' H' [(p989, cL rI s1001.1), (p976, cL rI s1001.2.2), (l, cL rI s1001.2.1)] ∧ Evl.Ex G990 G' ∧ σ' = [some (V.ref l), some (V.int most0), some (V.ref p989), u1002, some (V.ref p976), some (V.int size_981), u826, u827, u828] ∧ forS (m__law_masks_b3) (xs996.drop i) s1001 = some t999) ?_ ?_ ?_
      · intro G' H' w' e'
        exact ⟨(masks_here_985, (s822.2, rest_972)), (u825), w', e', rfl, hx1000⟩
      · rintro i1010 x1011 σ' G1006 H1009 hx1012 ⟨s1001, u1002, w1007, e1008, rfl, hm1004⟩
        obtain ⟨q1005, hb1003, hm1004⟩ := forS_at hx1012 hm1004
        refine g_name ?_
        unfold m__law_masks_b3 at hb1003
        refine x_drop ?_
        refine o_bm (j := 0) w1007 rfl rfl ?_
        refine o_cons ?_
        refine o_bm (j := 1) w1007 rfl rfl ?_
        refine o_cons ?_
        refine o_call ?_
        refine o_cons ?_
        refine o_var rfl ?_
        refine o_cons ?_
        obtain ⟨x1013, hx1014, hb1003⟩ := bindS hb1003
        refine c_i w1007 (Sim.E.s scI (e_cb rc_lenL (ea_cons (e_var (R := (rL rI)) (x := s1001.2.2) rfl (w1007.rlAt (i := 1) rfl)) ea_nil))) hx1014 ?_
        intro H1015 w1016
        refine o_nil ?_
        obtain ⟨x1018, hx1019, hb1003⟩ := bindS hb1003
        refine c_p1 (i := 2) (j := (x1013, ())) w1016 rfl ⟨_, _, rfl, rfl, rfl⟩ hx1019 ?_
        intro u1020 H1021 G1022 w1023 e1024 r1025
        cases r1025
        have w1023 : Wo G H [l] G1022 H1021 [(p989, cL rI s1001.1), (p976, cL rI s1001.2.2), (l, cL rI x1018.2)] := w1023
        refine o_nil ?_
        obtain ⟨x1027, hx1028, hb1003⟩ := bindS hb1003
        refine c_popAt (j := 1) w1023 rfl hx1028 ?_
        intro v1029 H1030 w1031 r1032
        cases r1032
        have w1031 : Wo G H [l] G1022 H1030 [(p989, cL rI s1001.1), (p976, cL rI x1027.2), (l, cL rI x1018.2)] := w1031
        refine o_nil ?_
        obtain ⟨masks_here_1034, hx1035, hb1003⟩ := bindS hb1003
        obtain ⟨hs1038, q1039⟩ := appM_ok hx1035
        subst q1039
        refine c_app (j := 0) w1031 rfl hs1038 rfl ?_
        intro H1036 w1037
        have w1037 : Wo G H [l] G1022 H1036 [(p989, cL rI (s1001.1 ++ [x1027.1])), (p976, cL rI x1027.2), (l, cL rI x1018.2)] := w1037
        refine x_next ?_
        have hb1003 : ((s1001.1 ++ [x1027.1]), (x1018.2, x1027.2)) = q1005 := Option.some.inj hb1003
        subst hb1003
        exact ⟨G1022, ((s1001.1 ++ [x1027.1]), (x1018.2, x1027.2)), (some (V.int x1011)), w1037, (e1008.trans e1024), rfl, hm1004⟩
      · rintro σ' G1040 H1043 ⟨s1001, u1002, w1041, e1042, rfl, hm1004⟩
        have hm1004 := forS_end hm1004
        subst hm1004
        obtain ⟨h8, h9⟩ : s1001.1 = r ∧ s1001.2.1 = k' := Prod.mk.inj (Option.some.inj h)
        subst h8
        subst h9
        refine x_retO (o_var rfl ?_)
        exact k _ _ _ n991 w1041.f (w1041.sub2 (i := 0) (j := 2) rfl rfl (by decide))
def m__law_under (masks_here0 : (List Int)) (low0 : Int) (high0 : Int) : Option Bool :=
  (((atI masks_here0 low0 >>= fun t1045 => (atI masks_here0 high0 >>= fun t1046 => some (Builtin.bitAnd t1045 t1046))) >>= fun t1047 => (atI masks_here0 low0 >>= fun t1048 => some (t1047 == t1048))) >>= fun a1049 => some a1049)
theorem sc__law_under : FnScope ["_law_masks_here", "_law_low", "_law_high"] ["_law_masks_here", "_law_low", "_law_high"] (defScope s__law_under) := ⟨rfl, rfl, rfl, by decide +kernel, rfl, by decide +kernel, by decide +kernel⟩
theorem ok__law_under (T : Tx K mg) : Fk P w K mg base CX0 1 "_law_under" ["_law_masks_here", "_law_low", "_law_high"] (PF (aC (rL rI) (aC rI (aC rI aN))) rB (fun i => m__law_under i.1 i.2.1 i.2.2.1)) := by
  obtain ⟨fd, F⟩ := T.def_ 14 rfl
  have nd := sc__law_under.nd
  refine fk_mk T.toTx (x := "_law_under") (T.glo 20 rfl) F (fun _ _ _ _ _ _ us hl => match us, hl with | [_, _, _], _ => rfl) (F.ok sc__law_under (fun vs H Q E h => ?_) (fun cdv A outer s H vs Q E hr h => ?_))
  · obtain ⟨G, ⟨masks_here0, low0, high0, ⟨⟩⟩, r, e0, ⟨vmasks_here0, _, rfl, hmasks_here0, vlow0, _, rfl, hlow0, vhigh0, _, rfl, hhigh0, rfl⟩, h, k⟩ := h
    rfl
  · obtain ⟨G, ⟨masks_here0, low0, high0, ⟨⟩⟩, r, e0, ⟨vmasks_here0, _, rfl, hmasks_here0, vlow0, _, rfl, hlow0, vhigh0, _, rfl, hhigh0, rfl⟩, h, k⟩ := h
    cases hlow0
    cases hhigh0
    have w0 := Wo.start e0
    have h : m__law_under masks_here0 low0 high0 = some r := h
    unfold m__law_under at h
    refine ⟨_, PSs.nox (pss_cons (ps_ret (pe_cmpR op_eq (pe_op op_and (pe_ix (r := rIxL K) ix_list (pv 0) (pv 1) (fun _ _ => rfl)) (pe_ix (r := rIxL K) ix_list (pv 0) (pv 2) (fun _ _ => rfl))) (pe_ix (r := rIxL K) ix_list (pv 0) (pv 1) (fun _ _ => rfl)) (nomark _))) pss_nil), ?_⟩
    obtain ⟨a1049, hx1050, h⟩ := bindS h
    have h : a1049 = r := Option.some.inj h
    subst h
    exact x_ret w0 (e_op rr_eqI (e_op rr_and (e_op rr_ixL (e_var (R := (rL rI)) (x := masks_here0) rfl hmasks_here0) (e_var (R := rI) (x := low0) rfl rfl)) (e_op rr_ixL (e_var (R := (rL rI)) (x := masks_here0) rfl hmasks_here0) (e_var (R := rI) (x := high0) rfl rfl))) (e_op rr_ixL (e_var (R := (rL rI)) (x := masks_here0) rfl hmasks_here0) (e_var (R := rI) (x := low0) rfl rfl))) (by first | (simp only [be1, bs1, ba1] at hx1050 ⊢; exact hx1050) | exact hx1050) (fun v9 H9 G9 w9 e9 r9 => k v9 H9 G9 w9.upE r9)
def m_Order___init___X_b2 (size0 : Int) (x1103 : Int) (s1093 : Unit) : Option (Stp Unit (Xn ⊕ m_Order)) :=
  (some ((decide (x1103 < (0 : Int))) || (decide (size0 ≤ x1103))) >>= fun b1111 => bif b1111 then (some x1103 >>= fun a1115 => some (Stp.rt (Sum.inl ⟨"NotElement", [("value", .int a1115)]⟩ : Xn ⊕ m_Order))) else some (Stp.nx ()))
def m_Order___init___X_b1 (size0 : Int) (x1076 : (Int × Int)) (s1064 : Unit) : Option (Stp Unit (Xn ⊕ m_Order)) :=
  (some ([x1076.1, x1076.2]) >>= fun xs1088 => forL (m_Order___init___X_b2 size0) xs1088 () >>= Sum.elim (fun s1093 => some (Stp.nx ())) (fun r => some (Stp.rt r)))
def m_Order___init___X (size0 : Int) (pairs0 : (List (Int × Int))) : Option (Xn ⊕ m_Order) :=
  (some ((decide (size0 < (1 : Int))) || (decide ((12 : Int) < size0))) >>= fun b1051 => bif b1051 then (some size0 >>= fun a1055 => some (Sum.inl ⟨"BadSize", [("size", .int a1055)]⟩ : Xn ⊕ m_Order)) else (some pairs0 >>= fun xs1059 => forL (m_Order___init___X_b1 size0) xs1059 () >>= Sum.elim (fun s1064 => (m_closure size0 pairs0 >>= fun above_1133 => (m_first_ring above_1133 >>= fun bad_1142 => (some bad_1142.isSome >>= fun b1152 => bif b1152 then ((bad_1142 >>= fun t1156 => some t1156.1) >>= fun a1158 => ((bad_1142 >>= fun t1157 => some t1157.2) >>= fun a1159 => some (Sum.inl ⟨"Ring", [("first", .int a1158), ("second", .int a1159)]⟩ : Xn ⊕ m_Order))) else (m_bounds_table above_1133 >>= fun joins_1164 => (m_first_lack joins_1164 >>= fun bad_1175 => (some bad_1175.isSome >>= fun b1187 => bif b1187 then ((bad_1175 >>= fun t1191 => some t1191.1) >>= fun a1193 => ((bad_1175 >>= fun t1192 => some t1192.2) >>= fun a1194 => some (Sum.inl ⟨"NoJoin", [("first", .int a1193), ("second", .int a1194)]⟩ : Xn ⊕ m_Order))) else ((m_turned above_1133 >>= fun t1199 => m_bounds_table t1199) >>= fun meets_1200 => (m_first_lack meets_1200 >>= fun bad_1212 => (some bad_1212.isSome >>= fun b1225 => bif b1225 then ((bad_1212 >>= fun t1229 => some t1229.1) >>= fun a1231 => ((bad_1212 >>= fun t1230 => some t1230.2) >>= fun a1232 => some (Sum.inl ⟨"NoMeet", [("first", .int a1231), ("second", .int a1232)]⟩ : Xn ⊕ m_Order))) else (some above_1133 >>= fun f1237 => (some joins_1164 >>= fun f1248 => (some meets_1200 >>= fun f1259 => (rngM 0 size0 >>= fun f1270 => (m_longest above_1133 >>= fun f1281 => some (Sum.inr (m_Order.mk f1237 f1248 f1259 f1270 f1281) : Xn ⊕ m_Order)))))))))))))))) (fun r => some r)))
theorem sc_Order___init___X : FnScope ["self", "size", "pairs", "above", "bad", "joins", "meets", "low", "high", "value"] ["self", "size", "pairs"] (defScope s_Order___init__) := ⟨rfl, rfl, rfl, by decide +kernel, rfl, by decide +kernel, by decide +kernel⟩
theorem ok_Order___init___X (T : Tx K mg) : Fm P w K mg base (L2.CX P w) 3 "Order" "__init__" ["self", "size", "pairs"] (PXI K (He.ga K "Order") (aC rI (aC (rL (rP rI rI)) aN)) ns_Order (fl_Order K) (fun i => m_Order___init___X i.1 i.2.1)) := by
  obtain ⟨fd_closure, G_closure, b_closure, k_closure, g_closure⟩ := ok_closure (w := w) (base := base) T
  obtain ⟨fd_first_ring, G_first_ring, b_first_ring, k_first_ring, g_first_ring⟩ := ok_first_ring (w := w) (base := base) T
  obtain ⟨fd_bounds_table, G_bounds_table, b_bounds_table, k_bounds_table, g_bounds_table⟩ := ok_bounds_table (w := w) (base := base) T
  obtain ⟨fd_first_lack, G_first_lack, b_first_lack, k_first_lack, g_first_lack⟩ := ok_first_lack (w := w) (base := base) T
  obtain ⟨fd_turned, G_turned, b_turned, k_turned, g_turned⟩ := ok_turned (w := w) (base := base) T
  obtain ⟨fd_longest, G_longest, b_longest, k_longest, g_longest⟩ := ok_longest (w := w) (base := base) T
  obtain ⟨fI_BadSize, b_BadSize, F_BadSize⟩ := okx_BadSize (w := w) (base := base) T
  have Y_BadSize := known_BadSize T
  have g_BadSize := T.glo 2 rfl
  obtain ⟨fI_NotElement, b_NotElement, F_NotElement⟩ := okx_NotElement (w := w) (base := base) T
  have Y_NotElement := known_NotElement T
  have g_NotElement := T.glo 3 rfl
  obtain ⟨fI_Ring, b_Ring, F_Ring⟩ := okx_Ring (w := w) (base := base) T
  have Y_Ring := known_Ring T
  have g_Ring := T.glo 4 rfl
  obtain ⟨fI_NoJoin, b_NoJoin, F_NoJoin⟩ := okx_NoJoin (w := w) (base := base) T
  have Y_NoJoin := known_NoJoin T
  have g_NoJoin := T.glo 5 rfl
  obtain ⟨fI_NoMeet, b_NoMeet, F_NoMeet⟩ := okx_NoMeet (w := w) (base := base) T
  have Y_NoMeet := known_NoMeet T
  have g_NoMeet := T.glo 6 rfl
  obtain ⟨u_Order_MOST, c_Order_MOST⟩ := T.con 0 (C := "Order") (f := "MOST") (v := .int 12) rfl
  obtain ⟨fd, F⟩ := T.def_ 8 rfl
  have nd := sc_Order___init___X.nd
  refine fm_mk F (fun _ _ _ _ _ _ us hl => match us, hl with | [_, _, _], _ => rfl) (F.ok sc_Order___init___X (fun vs H Q E h => ?_) (fun cdv A outer s H vs Q E hr h => ?_))
  · obtain ⟨G, l, _, ⟨size0, pairs0, ⟨⟩⟩, r, rfl, wd, ⟨vsize0, _, rfl, hsize0, vpairs0, _, rfl, hpairs0, rfl⟩, h, kx, k⟩ := h
    rfl
  · obtain ⟨G, l, _, ⟨size0, pairs0, ⟨⟩⟩, r, rfl, wd, ⟨vsize0, _, rfl, hsize0, vpairs0, _, rfl, hpairs0, rfl⟩, h, kx, k⟩ := h
    cases hsize0
    have w0 : Wo G H [l] G H _ := Wo.startC wd
    have h : m_Order___init___X size0 pairs0 = some r := h
    unfold m_Order___init___X at h
    have tk := takes_of (X := cxOf (L2.CX P w) P w K mg base ["self", "size", "pairs", "above", "bad", "joins", "meets", "low", "high", "value"] "Order.__init__" (defScope s_Order___init__) (He.fAd K ("Order", some "__init__")) cdv A outer s H E) rfl rfl rfl (E := E) rfl
    refine ⟨_, (pss_cons (ps_if (PW.pt (pw_or (pt_cmpR op_lt (pv 1) pe_int (nomark _)) (pw_or1 (pt_cmpR op_gt (pv 1) (pe_con (pv 0) rfl) (nomark _))))) (pss_cons (ps_raise rfl tk (pmk_oex Y_BadSize.oex Y_BadSize.ini Y_BadSize.ty F_BadSize (hr.mono (by decide)) b_BadSize .nil pass0 rfl g_BadSize (pa_cons (pv 1) pa_nil))) pss_nil) pss_nil) (pss_cons (ps_for (passes_of rfl) rfl (pi_list (pv 2)) (pg_tup (by rfl) (pgs_cons (pg_name (i := 7) nd rfl (by first | exact Or.inl rfl | exact Or.inr rfl)) (pgs_cons (pg_name (i := 8) nd rfl (by first | exact Or.inl rfl | exact Or.inr rfl)) pgs_nil))) (pss_cons (ps_for (passes_of rfl) rfl (pi_tup (pe_tup (pa_cons (pv 7) (pa_cons (pv 8) pa_nil)))) (pg_name (i := 9) nd rfl (Or.inl rfl)) (pss_cons (ps_if (PW.pt (pw_or (pt_cmpR op_lt (pv 9) pe_int (nomark _)) (pw_or1 (pt_cmpR op_ge (pv 9) (pv 1) (nomark _))))) (pss_cons (ps_raise rfl tk (pmk_oex Y_NotElement.oex Y_NotElement.ini Y_NotElement.ty F_NotElement (hr.mono (by decide)) b_NotElement .nil pass0 rfl g_NotElement (pa_cons (pv 9) pa_nil))) pss_nil) pss_nil) pss_nil)) pss_nil)) (pss_cons (ps_set (i := 3) nd rfl (Or.inl rfl) (pe_call G_closure (hr.mono (by decide)) rfl g_closure k_closure b_closure .nil pass0 (pa_cons (pv 1) (pa_cons (pv 2) pa_nil)))) (pss_cons (ps_set (i := 4) nd rfl (Or.inl rfl) (pe_call G_first_ring (hr.mono (by decide)) rfl g_first_ring k_first_ring b_first_ring .nil pass0 (pa_cons (pv 3) pa_nil))) (pss_cons (ps_if (pt_cmpR op_notN (pv 4) pe_non (nomark _)) (pss_cons (ps_raise rfl tk (pmk_oex Y_Ring.oex Y_Ring.ini Y_Ring.ty F_Ring (hr.mono (by decide)) b_Ring .nil pass0 rfl g_Ring (pa_cons (pe_ix (r := rIxT K) ix_tup (pv 4) pe_int (fun _ _ => rfl)) (pa_cons (pe_ix (r := rIxT K) ix_tup (pv 4) pe_int (fun _ _ => rfl)) pa_nil)))) pss_nil) pss_nil) (pss_cons (ps_set (i := 5) nd rfl (Or.inl rfl) (pe_call G_bounds_table (hr.mono (by decide)) rfl g_bounds_table k_bounds_table b_bounds_table .nil pass0 (pa_cons (pv 3) pa_nil))) (pss_cons (ps_set (i := 4) nd rfl (Or.inl rfl) (pe_call G_first_lack (hr.mono (by decide)) rfl g_first_lack k_first_lack b_first_lack .nil pass0 (pa_cons (pv 5) pa_nil))) (pss_cons (ps_if (pt_cmpR op_notN (pv 4) pe_non (nomark _)) (pss_cons (ps_raise rfl tk (pmk_oex Y_NoJoin.oex Y_NoJoin.ini Y_NoJoin.ty F_NoJoin (hr.mono (by decide)) b_NoJoin .nil pass0 rfl g_NoJoin (pa_cons (pe_ix (r := rIxT K) ix_tup (pv 4) pe_int (fun _ _ => rfl)) (pa_cons (pe_ix (r := rIxT K) ix_tup (pv 4) pe_int (fun _ _ => rfl)) pa_nil)))) pss_nil) pss_nil) (pss_cons (ps_set (i := 6) nd rfl (Or.inl rfl) (pe_call G_bounds_table (hr.mono (by decide)) rfl g_bounds_table k_bounds_table b_bounds_table .nil pass0 (pa_cons (pe_call G_turned (hr.mono (by decide)) rfl g_turned k_turned b_turned .nil pass0 (pa_cons (pv 3) pa_nil)) pa_nil))) (pss_cons (ps_set (i := 4) nd rfl (Or.inl rfl) (pe_call G_first_lack (hr.mono (by decide)) rfl g_first_lack k_first_lack b_first_lack .nil pass0 (pa_cons (pv 6) pa_nil))) (pss_cons (ps_if (pt_cmpR op_notN (pv 4) pe_non (nomark _)) (pss_cons (ps_raise rfl tk (pmk_oex Y_NoMeet.oex Y_NoMeet.ini Y_NoMeet.ty F_NoMeet (hr.mono (by decide)) b_NoMeet .nil pass0 rfl g_NoMeet (pa_cons (pe_ix (r := rIxT K) ix_tup (pv 4) pe_int (fun _ _ => rfl)) (pa_cons (pe_ix (r := rIxT K) ix_tup (pv 4) pe_int (fun _ _ => rfl)) pa_nil)))) pss_nil) pss_nil) (pss_cons (ps_fld (pv 0) (pv 3) rfl) (pss_cons (ps_fld (pv 0) (pv 5) rfl) (pss_cons (ps_fld (pv 0) (pv 6) rfl) (pss_cons (ps_fld (pv 0) (pe_listRg (by rfl) (by rfl) (fr_list T) (prg_1 (by rfl) (fr_range T) (pv 1))) rfl) (pss_cons (ps_fld (pv 0) (pe_call G_longest (hr.mono (by decide)) rfl g_longest k_longest b_longest .nil pass0 (pa_cons (pv 3) pa_nil)) rfl) pss_nil)))))))))))))))), ?_⟩
    obtain ⟨b1051, hx1052, h⟩ := bindS h
    refine x_if w0 (et_orP (et_T (e_op rr_lt (e_var (R := rI) (x := size0) rfl rfl) e_int)) (et_T (e_op rr_gt (e_var (R := rI) (x := size0) rfl rfl) (e_conC (S := rI) (x := (12 : Int)) (j := 0) w0 rfl rfl (T.cls 43 rfl) c_Order_MOST (by decide +kernel) (fun _ => rfl))))) hx1052 ?_ ?_
    · intro hbb1051 H1053 w1054
      subst hbb1051
      have h := bifT h
      obtain ⟨a1055, hx1056, h⟩ := bindS h
      have h : (Sum.inl ⟨"BadSize", [("size", .int a1055)]⟩ : Xn ⊕ m_Order) = r := Option.some.inj h
      subst h
      refine x_raise (A := (aC rI aN)) (i := (a1055, ())) w1054 (ea_cons (e_var (R := rI) (x := size0) rfl rfl) ea_nil) (by first | (simp only [hx1056, Option.bind_eq_bind, Option.bind_some]) | (cases hx1056; rfl)) (fun G9 vs9 r9 => by obtain ⟨u0, _, rfl, q0, rfl⟩ := r9; exact ⟨rfl, by simp⟩) ?_
      intro vs9 H9 G9 d9 w9 r9 e9 hd9
      obtain ⟨u0, _, rfl, q0, rfl⟩ := r9
      exact kx _ rfl d9 H9 G9 w9.f w9.ex (Xat_mk (names := ["size"]) (xs := [.int a1055]) (by decide) hd9 (.cons q0 .nil))
    · intro hbb1051 H1057 w1058
      subst hbb1051
      have h := bifF h
      refine x_next ?_
      obtain ⟨xs1059, hx1060, h⟩ := bindS h
      obtain ⟨t1062, hx1063, h⟩ := bindS h
      refine x_forL w1058 (e_var (R := (rL (rP rI rI))) (x := pairs0) rfl hpairs0) hx1060 (fun i G' H' σ' => ∃ s1064 : Unit, ∃ u1065 : Option V, ∃ u1066 : Option V, ∃ u1067 : Option V, Wo G H [l] G' H' [(l, cI (He.ga K "Order") [] [])] ∧ Evl.Ex G G' ∧ σ' = [some (V.ref l), some (V.int size0), some vpairs0, none, none, none, none, u1066, u1065, u1067] ∧ forL (m_Order___init___X_b1 size0) (xs1059.drop i) s1064 = some t1062) (fun _ _ _ _ ⟨_, _, _, _, w, _⟩ => w.ex) ?_ ?_ ?_
      · intro G' H' w' e'
        exact ⟨(), (none), (none), (none), w', e', rfl, hx1063⟩
      · rintro G1078 e1079 i1075 x1076 v1080 σ' G1071 H1074 hx1077 e1082 ⟨s1064, u1065, u1066, u1067, w1072, e1073, rfl, hm1069⟩ r1081
        obtain ⟨q1070, hb1068, hm1069⟩ := forL_at hx1077 hm1069
        have h1083 := Rep.mono _ e1073 hpairs0
        refine g_pair (i := 7) (j := 8) r1081 w1072.ex ?_
        intro v1084 v1085 r1086 r1087
        cases r1086
        cases r1087
        unfold m_Order___init___X_b1 at hb1068
        obtain ⟨xs1088, hx1089, hb1068⟩ := bindS hb1068
        obtain ⟨t1091, hx1092, hb1068⟩ := bindS hb1068
        refine x_forT w1072 (e_tupH (eal_cons (e_var (R := rI) (x := x1076.1) rfl rfl) (eal_cons (e_var (R := rI) (x := x1076.2) rfl rfl) eal_nil))) hx1089 (fun i G' H' σ' => ∃ s1093 : Unit, ∃ u1094 : Option V, Wo G H [l] G' H' [(l, cI (He.ga K "Order") [] [])] ∧ Evl.Ex G1071 G' ∧ σ' = [some (V.ref l), some (V.int size0), some vpairs0, none, none, none, none, some (V.int x1076.1), some (V.int x1076.2), u1094] ∧ forL (m_Order___init___X_b2 size0) (xs1088.drop i) s1093 = some t1091) (fun _ _ _ _ ⟨_, _, w, _⟩ => w.ex) ?_ ?_ ?_
        · intro G' H' w' e'
          exact ⟨(), (u1067), w', e', rfl, hx1092⟩
        · rintro G1105 e1106 i1102 x1103 v1107 σ' G1098 H1101 hx1104 e1109 ⟨s1093, u1094, w1099, e1100, rfl, hm1096⟩ r1108
          obtain ⟨q1097, hb1095, hm1096⟩ := forL_at hx1104 hm1096
          have h1110 := Rep.mono _ e1100 h1083
          refine g_name ?_
          cases r1108
          unfold m_Order___init___X_b2 at hb1095
          obtain ⟨b1111, hx1112, hb1095⟩ := bindS hb1095
          refine x_if w1099 (et_orP (et_T (e_op rr_lt (e_var (R := rI) (x := x1103) rfl rfl) e_int)) (et_T (e_op rr_ge (e_var (R := rI) (x := x1103) rfl rfl) (e_var (R := rI) (x := size0) rfl rfl)))) hx1112 ?_ ?_
          · intro hbb1111 H1113 w1114
            subst hbb1111
            have hb1095 := bifT hb1095
            obtain ⟨a1115, hx1116, hb1095⟩ := bindS hb1095
            have hb1095 : some (Stp.rt (Sum.inl ⟨"NotElement", [("value", .int a1115)]⟩ : Xn ⊕ m_Order)) = some q1097 := hb1095
            cases hb1095
            have hm1096 : some (Sum.inr (Sum.inl ⟨"NotElement", [("value", .int a1115)]⟩ : Xn ⊕ m_Order)) = some t1091 := hm1096
            cases hm1096
            have hb1068 : some (Stp.rt (Sum.inl ⟨"NotElement", [("value", .int a1115)]⟩ : Xn ⊕ m_Order)) = some q1070 := hb1068
            cases hb1068
            have hm1069 : some (Sum.inr (Sum.inl ⟨"NotElement", [("value", .int a1115)]⟩ : Xn ⊕ m_Order)) = some t1062 := hm1069
            cases hm1069
            have h : (Sum.inl ⟨"NotElement", [("value", .int a1115)]⟩ : Xn ⊕ m_Order) = r := Option.some.inj h
            subst h
            refine x_raise (A := (aC rI aN)) (i := (a1115, ())) w1114 (ea_cons (e_var (R := rI) (x := x1103) rfl rfl) ea_nil) (by first | (simp only [hx1116, Option.bind_eq_bind, Option.bind_some]) | (cases hx1116; rfl)) (fun G9 vs9 r9 => by obtain ⟨u0, _, rfl, q0, rfl⟩ := r9; exact ⟨rfl, by simp⟩) ?_
            intro vs9 H9 G9 d9 w9 r9 e9 hd9
            obtain ⟨u0, _, rfl, q0, rfl⟩ := r9
            exact kx _ rfl d9 H9 G9 w9.f w9.ex (Xat_mk (names := ["value"]) (xs := [.int a1115]) (by decide) hd9 (.cons q0 .nil))
          · intro hbb1111 H1117 w1118
            subst hbb1111
            have hb1095 := bifF hb1095
            refine x_next ?_
            refine x_next ?_
            have hb1095 : Stp.nx () = q1097 := Option.some.inj hb1095
            subst hb1095
            exact ⟨G1098, (e1109.trans (Evl.Ex.refl _)), (), (some (V.int x1103)), w1118, e1100, rfl, hm1096⟩
        · rintro σ' G1119 H1122 e1123 ⟨s1093, u1094, w1120, e1121, rfl, hm1096⟩
          have hm1096 := forL_end hm1096
          subst hm1096
          have hb1068 := elimL hb1068
          have h1125 := Rep.mono _ e1121 h1083
          refine x_next ?_
          have hb1068 : Stp.nx () = q1070 := Option.some.inj hb1068
          subst hb1068
          exact ⟨G1119, (e1082.trans e1121), (), (some (V.int x1076.2)), (some (V.int x1076.1)), (u1094), w1120, (e1073.trans e1121), rfl, hm1069⟩
      · rintro σ' G1126 H1129 e1130 ⟨s1064, u1065, u1066, u1067, w1127, e1128, rfl, hm1069⟩
        have hm1069 := forL_end hm1069
        subst hm1069
        have h := elimL h
        have h1132 := Rep.mono _ e1128 hpairs0
        obtain ⟨above_1133, hx1134, h⟩ := bindS h
        refine x_set w1127 (e_call (ea_cons (e_var (R := rI) (x := size0) rfl rfl) (ea_cons (e_var (R := (rL (rP rI rI))) (x := pairs0) rfl h1132) ea_nil))) (by first | (simp only [be1, bs1, ba1] at hx1134 ⊢; exact hx1134) | exact hx1134) ?_
        intro v1137 H1135 G1138 w1136 e1139 h1140
        have h1141 := Rep.mono _ e1139 h1132
        obtain ⟨bad_1142, hx1143, h⟩ := bindS h
        refine x_set w1136 (e_call (ea_cons (e_var (R := (rL (rL rB))) (x := above_1133) rfl h1140) ea_nil)) (by first | (simp only [be1, bs1, ba1] at hx1143 ⊢; exact hx1143) | exact hx1143) ?_
        intro v1146 H1144 G1147 w1145 e1148 h1149
        have h1150 := Rep.mono _ e1148 h1141
        have h1151 := Rep.mono _ e1148 h1140
        obtain ⟨b1152, hx1153, h⟩ := bindS h
        refine x_if w1145 (et_T (e_op (rr_notN nnP) (e_var (R := (rO (rP rI rI))) (x := bad_1142) rfl (Rep.mono _ w1145.ex h1149)) e_non)) hx1153 ?_ ?_
        · intro hbb1152 H1154 w1155
          subst hbb1152
          have h := bifT h
          obtain ⟨a1158, hx1160, h⟩ := bindS h
          obtain ⟨a1159, hx1161, h⟩ := bindS h
          have h : (Sum.inl ⟨"Ring", [("first", .int a1158), ("second", .int a1159)]⟩ : Xn ⊕ m_Order) = r := Option.some.inj h
          subst h
          refine x_raise (A := (aC rI (aC rI aN))) (i := (a1158, (a1159, ()))) w1155 (ea_cons (e_fst (e_get (e_var (R := (rO (rP rI rI))) (x := bad_1142) rfl h1149))) (ea_cons (e_snd (e_get (e_var (R := (rO (rP rI rI))) (x := bad_1142) rfl h1149))) ea_nil)) (by first | (simp only [hx1160, hx1161, Option.bind_eq_bind, Option.bind_some]) | (cases hx1160; cases hx1161; rfl)) (fun G9 vs9 r9 => by obtain ⟨u0, _, rfl, q0, u1, _, rfl, q1, rfl⟩ := r9; exact ⟨rfl, by simp⟩) ?_
          intro vs9 H9 G9 d9 w9 r9 e9 hd9
          obtain ⟨u0, _, rfl, q0, u1, _, rfl, q1, rfl⟩ := r9
          exact kx _ rfl d9 H9 G9 w9.f w9.ex (Xat_mk (names := ["first", "second"]) (xs := [.int a1158, .int a1159]) (by decide) hd9 (.cons q0 (.cons q1 .nil)))
        · intro hbb1152 H1162 w1163
          subst hbb1152
          have h := bifF h
          refine x_next ?_
          obtain ⟨joins_1164, hx1165, h⟩ := bindS h
          refine x_set w1163 (e_call (ea_cons (e_var (R := (rL (rL rB))) (x := above_1133) rfl h1151) ea_nil)) (by first | (simp only [be1, bs1, ba1] at hx1165 ⊢; exact hx1165) | exact hx1165) ?_
          intro v1168 H1166 G1169 w1167 e1170 h1171
          have h1172 := Rep.mono _ e1170 h1150
          have h1173 := Rep.mono _ e1170 h1151
          have h1174 := Rep.mono _ e1170 h1149
          obtain ⟨bad_1175, hx1176, h⟩ := bindS h
          refine x_set w1167 (e_call (ea_cons (e_var (R := (rL (rL (rO rI)))) (x := joins_1164) rfl h1171) ea_nil)) (by first | (simp only [be1, bs1, ba1] at hx1176 ⊢; exact hx1176) | exact hx1176) ?_
          intro v1179 H1177 G1180 w1178 e1181 h1182
          have h1183 := Rep.mono _ e1181 h1172
          have h1184 := Rep.mono _ e1181 h1173
          have h1185 := Rep.mono _ e1181 h1174
          have h1186 := Rep.mono _ e1181 h1171
          obtain ⟨b1187, hx1188, h⟩ := bindS h
          refine x_if w1178 (et_T (e_op (rr_notN nnP) (e_var (R := (rO (rP rI rI))) (x := bad_1175) rfl (Rep.mono _ w1178.ex h1182)) e_non)) hx1188 ?_ ?_
          · intro hbb1187 H1189 w1190
            subst hbb1187
            have h := bifT h
            obtain ⟨a1193, hx1195, h⟩ := bindS h
            obtain ⟨a1194, hx1196, h⟩ := bindS h
            have h : (Sum.inl ⟨"NoJoin", [("first", .int a1193), ("second", .int a1194)]⟩ : Xn ⊕ m_Order) = r := Option.some.inj h
            subst h
            refine x_raise (A := (aC rI (aC rI aN))) (i := (a1193, (a1194, ()))) w1190 (ea_cons (e_fst (e_get (e_var (R := (rO (rP rI rI))) (x := bad_1175) rfl h1182))) (ea_cons (e_snd (e_get (e_var (R := (rO (rP rI rI))) (x := bad_1175) rfl h1182))) ea_nil)) (by first | (simp only [hx1195, hx1196, Option.bind_eq_bind, Option.bind_some]) | (cases hx1195; cases hx1196; rfl)) (fun G9 vs9 r9 => by obtain ⟨u0, _, rfl, q0, u1, _, rfl, q1, rfl⟩ := r9; exact ⟨rfl, by simp⟩) ?_
            intro vs9 H9 G9 d9 w9 r9 e9 hd9
            obtain ⟨u0, _, rfl, q0, u1, _, rfl, q1, rfl⟩ := r9
            exact kx _ rfl d9 H9 G9 w9.f w9.ex (Xat_mk (names := ["first", "second"]) (xs := [.int a1193, .int a1194]) (by decide) hd9 (.cons q0 (.cons q1 .nil)))
          · intro hbb1187 H1197 w1198
            subst hbb1187
            have h := bifF h
            refine x_next ?_
            obtain ⟨meets_1200, hx1201, h⟩ := bindS h
            refine x_set w1198 (e_call (ea_cons (e_call (ea_cons (e_var (R := (rL (rL rB))) (x := above_1133) rfl h1184) ea_nil)) ea_nil)) (by first | (simp only [be1, bs1, ba1] at hx1201 ⊢; exact hx1201) | exact hx1201) ?_
            intro v1204 H1202 G1205 w1203 e1206 h1207
            have h1208 := Rep.mono _ e1206 h1183
            have h1209 := Rep.mono _ e1206 h1184
            have h1210 := Rep.mono _ e1206 h1182
            have h1211 := Rep.mono _ e1206 h1186
            obtain ⟨bad_1212, hx1213, h⟩ := bindS h
            refine x_set w1203 (e_call (ea_cons (e_var (R := (rL (rL (rO rI)))) (x := meets_1200) rfl h1207) ea_nil)) (by first | (simp only [be1, bs1, ba1] at hx1213 ⊢; exact hx1213) | exact hx1213) ?_
            intro v1216 H1214 G1217 w1215 e1218 h1219
            have h1220 := Rep.mono _ e1218 h1208
            have h1221 := Rep.mono _ e1218 h1209
            have h1222 := Rep.mono _ e1218 h1210
            have h1223 := Rep.mono _ e1218 h1211
            have h1224 := Rep.mono _ e1218 h1207
            obtain ⟨b1225, hx1226, h⟩ := bindS h
            refine x_if w1215 (et_T (e_op (rr_notN nnP) (e_var (R := (rO (rP rI rI))) (x := bad_1212) rfl (Rep.mono _ w1215.ex h1219)) e_non)) hx1226 ?_ ?_
            · intro hbb1225 H1227 w1228
              subst hbb1225
              have h := bifT h
              obtain ⟨a1231, hx1233, h⟩ := bindS h
              obtain ⟨a1232, hx1234, h⟩ := bindS h
              have h : (Sum.inl ⟨"NoMeet", [("first", .int a1231), ("second", .int a1232)]⟩ : Xn ⊕ m_Order) = r := Option.some.inj h
              subst h
              refine x_raise (A := (aC rI (aC rI aN))) (i := (a1231, (a1232, ()))) w1228 (ea_cons (e_fst (e_get (e_var (R := (rO (rP rI rI))) (x := bad_1212) rfl h1219))) (ea_cons (e_snd (e_get (e_var (R := (rO (rP rI rI))) (x := bad_1212) rfl h1219))) ea_nil)) (by first | (simp only [hx1233, hx1234, Option.bind_eq_bind, Option.bind_some]) | (cases hx1233; cases hx1234; rfl)) (fun G9 vs9 r9 => by obtain ⟨u0, _, rfl, q0, u1, _, rfl, q1, rfl⟩ := r9; exact ⟨rfl, by simp⟩) ?_
              intro vs9 H9 G9 d9 w9 r9 e9 hd9
              obtain ⟨u0, _, rfl, q0, u1, _, rfl, q1, rfl⟩ := r9
              exact kx _ rfl d9 H9 G9 w9.f w9.ex (Xat_mk (names := ["first", "second"]) (xs := [.int a1231, .int a1232]) (by decide) hd9 (.cons q0 (.cons q1 .nil)))
            · intro hbb1225 H1235 w1236
              subst hbb1225
              have h := bifF h
              refine x_next ?_
              obtain ⟨f1237, hx1238, h⟩ := bindS h
              refine x_fldN (j := 0) w1236 rfl rfl (e_var (R := (rL (rL rB))) (x := above_1133) rfl h1221) hx1238 (T.cls 43 rfl) (T.noat 44 rfl) (by decide +kernel) (by decide) ?_
              intro H1239 G1240 w1241 e1242
              have h1243 := Rep.mono _ e1242 h1220
              have h1244 := Rep.mono _ e1242 h1221
              have h1245 := Rep.mono _ e1242 h1219
              have h1246 := Rep.mono _ e1242 h1223
              have h1247 := Rep.mono _ e1242 h1224
              have w1241 : Wo G H [l] G1240 H1239 [(l, cI (He.ga K "Order") ["_above"] [pd (rL (rL rB)) f1237])] := w1241
              obtain ⟨f1248, hx1249, h⟩ := bindS h
              refine x_fldN (j := 0) w1241 rfl rfl (e_var (R := (rL (rL (rO rI)))) (x := joins_1164) rfl h1246) hx1249 (T.cls 43 rfl) (T.noat 45 rfl) (by decide +kernel) (by decide) ?_
              intro H1250 G1251 w1252 e1253
              have h1254 := Rep.mono _ e1253 h1243
              have h1255 := Rep.mono _ e1253 h1244
              have h1256 := Rep.mono _ e1253 h1245
              have h1257 := Rep.mono _ e1253 h1246
              have h1258 := Rep.mono _ e1253 h1247
              have w1252 : Wo G H [l] G1251 H1250 [(l, cI (He.ga K "Order") ["_above", "_joins"] [pd (rL (rL rB)) f1237, pd (rL (rL (rO rI))) f1248])] := w1252
              obtain ⟨f1259, hx1260, h⟩ := bindS h
              refine x_fldN (j := 0) w1252 rfl rfl (e_var (R := (rL (rL (rO rI)))) (x := meets_1200) rfl h1258) hx1260 (T.cls 43 rfl) (T.noat 46 rfl) (by decide +kernel) (by decide) ?_
              intro H1261 G1262 w1263 e1264
              have h1265 := Rep.mono _ e1264 h1254
              have h1266 := Rep.mono _ e1264 h1255
              have h1267 := Rep.mono _ e1264 h1256
              have h1268 := Rep.mono _ e1264 h1257
              have h1269 := Rep.mono _ e1264 h1258
              have w1263 : Wo G H [l] G1262 H1261 [(l, cI (He.ga K "Order") ["_above", "_joins", "_meets"] [pd (rL (rL rB)) f1237, pd (rL (rL (rO rI))) f1248, pd (rL (rL (rO rI))) f1259])] := w1263
              obtain ⟨f1270, hx1271, h⟩ := bindS h
              refine x_fldN (j := 0) w1263 rfl rfl (EL.e (el_listRg (e_var (R := rI) (x := size0) rfl rfl))) hx1271 (T.cls 43 rfl) (T.noat 47 rfl) (by decide +kernel) (by decide) ?_
              intro H1272 G1273 w1274 e1275
              have h1276 := Rep.mono _ e1275 h1265
              have h1277 := Rep.mono _ e1275 h1266
              have h1278 := Rep.mono _ e1275 h1267
              have h1279 := Rep.mono _ e1275 h1268
              have h1280 := Rep.mono _ e1275 h1269
              have w1274 : Wo G H [l] G1273 H1272 [(l, cI (He.ga K "Order") ["_above", "_joins", "_meets", "_members"] [pd (rL (rL rB)) f1237, pd (rL (rL (rO rI))) f1248, pd (rL (rL (rO rI))) f1259, pd (rL rI) f1270])] := w1274
              obtain ⟨f1281, hx1282, h⟩ := bindS h
              refine x_fldN (j := 0) w1274 rfl rfl (e_call (ea_cons (e_var (R := (rL (rL rB))) (x := above_1133) rfl h1277) ea_nil)) (by first | (simp only [be1, bs1, ba1] at hx1282 ⊢; exact hx1282) | exact hx1282) (T.cls 43 rfl) (T.noat 48 rfl) (by decide +kernel) (by decide) ?_
              intro H1283 G1284 w1285 e1286
              have h1287 := Rep.mono _ e1286 h1276
              have h1288 := Rep.mono _ e1286 h1277
              have h1289 := Rep.mono _ e1286 h1278
              have h1290 := Rep.mono _ e1286 h1279
              have h1291 := Rep.mono _ e1286 h1280
              have w1285 : Wo G H [l] G1284 H1283 [(l, cI (He.ga K "Order") ["_above", "_joins", "_meets", "_members", "_height"] [pd (rL (rL rB)) f1237, pd (rL (rL (rO rI))) f1248, pd (rL (rL (rO rI))) f1259, pd (rL rI) f1270, pd rI f1281])] := w1285
              refine x_next ?_
              have h : (Sum.inr (m_Order.mk f1237 f1248 f1259 f1270 f1281) : Xn ⊕ m_Order) = r := Option.some.inj h
              subst h
              exact k _ rfl _ _ w1285.f (w1285.sub1 (i := 0) rfl)
def m_Order___len__ (self0 : m_Order) : Option Int :=
  (some (self0.f_members.length : Int) >>= fun a1292 => some a1292)
theorem sc_Order___len__ : FnScope ["self"] ["self"] (defScope s_Order___len__) := ⟨rfl, rfl, rfl, by decide +kernel, rfl, by decide +kernel, by decide +kernel⟩
theorem ok_Order___len__ (T : Tx K mg) : Fm P w K mg base CX0 1 "Order" "__len__" ["self"] (PF (aC (r_Order K) aN) rI (fun i => m_Order___len__ i.1)) := by
  obtain ⟨fd, F⟩ := T.def_ 9 rfl
  have nd := sc_Order___len__.nd
  refine fm_mk F (fun _ _ _ _ _ _ us hl => match us, hl with | [_], _ => rfl) (F.ok sc_Order___len__ (fun vs H Q E h => ?_) (fun cdv A outer s H vs Q E hr h => ?_))
  · obtain ⟨G, ⟨self0, ⟨⟩⟩, r, e0, ⟨vself0, _, rfl, hself0, rfl⟩, h, k⟩ := h
    rfl
  · obtain ⟨G, ⟨self0, ⟨⟩⟩, r, e0, ⟨vself0, _, rfl, hself0, rfl⟩, h, k⟩ := h
    have w0 := Wo.start e0
    have h : m_Order___len__ self0 = some r := h
    unfold m_Order___len__ at h
    refine ⟨_, PSs.nox (pss_cons (ps_ret (pe_callB (r := rLn K) call_len_seq (by rfl) (fr_len T) (by decide +kernel) (pa_cons (pe_fld (pv 0) rfl) pa_nil))) pss_nil), ?_⟩
    obtain ⟨a1292, hx1293, h⟩ := bindS h
    have h : a1292 = r := Option.some.inj h
    subst h
    exact x_ret w0 (e_cb rc_lenL (ea_cons (e_fld 3 (fun (o : m_Order) => o.f_members) (e_var (R := (r_Order K)) (x := self0) rfl hself0) (T.cls 43 rfl) (T.noat 47 rfl) (by decide +kernel) (fun _ => rfl)) ea_nil)) hx1293 (fun v9 H9 G9 w9 e9 r9 => k v9 H9 G9 w9.upE r9)
def m__law_int (value0 : Int) : Option Bool :=
  (some (true && (!false)) >>= fun a1294 => some a1294)
theorem sc__law_int : FnScope ["_law_value"] ["_law_value"] (defScope s__law_int) := ⟨rfl, rfl, rfl, by decide +kernel, rfl, by decide +kernel, by decide +kernel⟩
theorem ok__law_int (T : Tx K mg) : Fk P w K mg base CX0 1 "_law_int" ["_law_value"] (PF (aC rI aN) rB (fun i => m__law_int i.1)) := by
  obtain ⟨fd, F⟩ := T.def_ 12 rfl
  have nd := sc__law_int.nd
  refine fk_mk T.toTx (x := "_law_int") (T.glo 18 rfl) F (fun _ _ _ _ _ _ us hl => match us, hl with | [_], _ => rfl) (F.ok sc__law_int (fun vs H Q E h => ?_) (fun cdv A outer s H vs Q E hr h => ?_))
  · obtain ⟨G, ⟨value0, ⟨⟩⟩, r, e0, ⟨vvalue0, _, rfl, hvalue0, rfl⟩, h, k⟩ := h
    rfl
  · obtain ⟨G, ⟨value0, ⟨⟩⟩, r, e0, ⟨vvalue0, _, rfl, hvalue0, rfl⟩, h, k⟩ := h
    cases hvalue0
    have w0 := Wo.start e0
    have h : m__law_int value0 = some r := h
    unfold m__law_int at h
    refine ⟨_, PSs.nox (pss_cons (ps_ret (pe_and (pe_callB (r := rIsi K) call_isi (by rfl) (fr_isinstance T) (by decide +kernel) (pa_cons (pv 0) (pa_cons (pe_bltn (v := .ty "int") (by rfl) (fr_int T) (by decide +kernel) rfl) pa_nil))) (pe_one (pe_not (pe_callB (r := rIsi K) call_isi (by rfl) (fr_isinstance T) (by decide +kernel) (pa_cons (pv 0) (pa_cons (pe_bltn (v := .ty "bool") (by rfl) (fr_bool T) (by decide +kernel) rfl) pa_nil))))))) pss_nil), ?_⟩
    obtain ⟨a1294, hx1295, h⟩ := bindS h
    have h : a1294 = r := Option.some.inj h
    subst h
    exact x_ret w0 (e_andP (e_isi (e_var (R := rI) (x := value0) rfl rfl) ktI (n := "int") (c := "int") (b := true) (by decide +kernel)) (e_notV (e_isi (e_var (R := rI) (x := value0) rfl rfl) ktI (n := "int") (c := "bool") (b := false) (by decide +kernel)))) hx1295 (fun v9 H9 G9 w9 e9 r9 => k v9 H9 G9 w9.upE r9)
def m__law_covers_b2 (masks_here0 : (List Int)) (x1325 : Int) (x1347 : Int) (s1335 : (List (Int × Int))) : Option (List (Int × Int)) :=
  ((rngM 0 (masks_here0.length : Int) >>= fun xs1356 => lcS (fun x1353 => (andO (m__law_under masks_here0 x1325 x1353) (m__law_under masks_here0 x1353 x1347))) (fun x1353 => some x1353) xs1356) >>= fun between_1357 => ((some ((!(x1325 == x1347)) && ((between_1357.length : Int) == (2 : Int))) >>= fun b1366 => bif b1366 then (some (x1325, x1347) >>= fun a1386 => appM s1335 a1386 >>= fun covers_here_1387 => some covers_here_1387) else some s1335) >>= fun s1378 => some (s1378)))
def m__law_covers_b1 (masks_here0 : (List Int)) (x1325 : Int) (s1312 : (List (Int × Int))) : Option (List (Int × Int)) :=
  (some (masks_here0.length : Int) >>= fun n1328 => rngM 0 n1328 >>= fun xs1330 => forS (m__law_covers_b2 masks_here0 x1325) xs1330 s1312 >>= fun s1335 => some (s1335))
def m__law_covers (masks_here0 : (List Int)) : Option (List (Int × Int)) :=
  (some ([]) >>= fun covers_here_1296 => (some (masks_here0.length : Int) >>= fun n1305 => rngM 0 n1305 >>= fun xs1307 => forS (m__law_covers_b1 masks_here0) xs1307 covers_here_1296 >>= fun s1312 => some s1312))
theorem sc__law_covers : FnScope ["_law_masks_here", "_law_covers_here", "_law_low", "_law_high", "_law_between", "_law_k"] ["_law_masks_here"] (defScope s__law_covers) := ⟨rfl, rfl, rfl, by decide +kernel, rfl, by decide +kernel, by decide +kernel⟩
theorem ok__law_covers (T : Tx K mg) : Fk P w K mg base CX0 2 "_law_covers" ["_law_masks_here"] (PL (aC (rL rI) aN) (rP rI rI) (fun i => m__law_covers i.1)) := by
  obtain ⟨fd__law_under, G__law_under, b__law_under, k__law_under, g__law_under⟩ := ok__law_under (w := w) (base := base) T
  obtain ⟨fd, F⟩ := T.def_ 15 rfl
  have nd := sc__law_covers.nd
  refine fk_mk T.toTx (x := "_law_covers") (T.glo 21 rfl) F (fun _ _ _ _ _ _ us hl => match us, hl with | [_], _ => rfl) (F.ok sc__law_covers (fun vs H Q E h => ?_) (fun cdv A outer s H vs Q E hr h => ?_))
  · obtain ⟨G, ⟨masks_here0, ⟨⟩⟩, r, e0, ⟨vmasks_here0, _, rfl, hmasks_here0, rfl⟩, h, k⟩ := h
    rfl
  · obtain ⟨G, ⟨masks_here0, ⟨⟩⟩, r, e0, ⟨vmasks_here0, _, rfl, hmasks_here0, rfl⟩, h, k⟩ := h
    have w0 := Wo.start e0
    have h : m__law_covers masks_here0 = some r := h
    unfold m__law_covers at h
    refine ⟨_, PSs.nox (pss_cons (ps_set (i := 1) nd rfl (Or.inl rfl) (pe_lst pa_nil)) (pss_cons (ps_for PassesOwn.never rfl (pi_range1 (by rfl) (fr_range T) (pa_cons (pe_callB (r := rLn K) call_len_seq (by rfl) (fr_len T) (by decide +kernel) (pa_cons (pv 0) pa_nil)) pa_nil)) (pg_name (i := 2) nd rfl (Or.inr rfl)) (pss_cons (ps_for PassesOwn.never rfl (pi_range1 (by rfl) (fr_range T) (pa_cons (pe_callB (r := rLn K) call_len_seq (by rfl) (fr_len T) (by decide +kernel) (pa_cons (pv 0) pa_nil)) pa_nil)) (pg_name (i := 3) nd rfl (Or.inr rfl)) (pss_cons (ps_setLc (i := 4) (own := [("_law_k", 5)]) (by rfl) nd rfl rfl (sw_true rfl rfl rfl (by decide +kernel)) (pi_range1 (by rfl) (fr_range T) (pa_cons (pe_callB (r := rLn K) call_len_seq (by rfl) (fr_len T) (by decide +kernel) (pa_cons (pv 0) pa_nil)) pa_nil)) (blkOk_by (by kernel_rfl)) (fun _ _ _ _ _ => pg_name (i := 5) nd rfl (by first | exact Or.inl rfl | exact Or.inr rfl)) (fun _ _ _ _ _ => pts_one (PW.pt (pw_and (pt_val (pe_call G__law_under (hr.mono (by decide)) rfl g__law_under k__law_under b__law_under .nil pass0 (pa_cons (pv 0) (pa_cons (pv 2) (pa_cons (pv 5) pa_nil))))) (pw_and1 (pt_val (pe_call G__law_under (hr.mono (by decide)) rfl g__law_under k__law_under b__law_under .nil pass0 (pa_cons (pv 0) (pa_cons (pv 5) (pa_cons (pv 3) pa_nil))))))))) (fun _ _ _ _ _ => (pv 5))) (Evl.pss_cut (ps_if (PW.pt (pw_and (pt_cmpR op_ne (pv 2) (pv 3) (nomark _)) (pw_and1 (pt_cmpR op_eq (pe_callB (r := rLn K) call_len_seq (by rfl) (fr_len T) (by decide +kernel) (pa_cons (pv 4) pa_nil)) pe_int (nomark _))))) (pss_cons (ps_expr (pe_bm PySem.F.plainAttrs_list PySem.F.slot_list_append PySem.F.type_list_append mt_append (pv 1) (pa_cons (pe_tup (pa_cons (pv 2) (pa_cons (pv 3) pa_nil))) pa_nil))) pss_nil) pss_nil) pss_nil))) pss_nil)) (pss_cons (ps_ret (pv 1)) pss_nil))), ?_⟩
    obtain ⟨covers_here_1296, hx1297, h⟩ := bindS h
    refine x_setL w0 (el_disp (R := (rP rI rI)) eal_nil) hx1297 ?_
    intro p1300 H1298 G1301 n1302 w1299 e1303
    have h1304 := Rep.mono _ e1303 hmasks_here0
    obtain ⟨n1305, hx1306, h⟩ := bindS h
    obtain ⟨xs1307, hx1308, h⟩ := bindS h
    obtain ⟨t1310, hx1311, h⟩ := bindS h
    refine x_forR w1299 (ea_cons (Sim.E.is (e_cb rc_lenL (ea_cons (e_var (R := (rL rI)) (x := masks_here0) rfl h1304) ea_nil)) hx1306) ea_nil) rfl hx1308 (fun i G' H' σ' => ∃ s1312 : (List (Int × Int)), ∃ u1313 : Option V, ∃ u1314 : Option V, ∃ u1315 : Option V, ∃ u1316 : Option V, Wo G H [] G' H' [(p1300, cL (rP rI rI) s1312)] ∧ Evl.Ex G1301 G' ∧ σ' = [some vmasks_here0, some (V.ref p1300), u1316, u1314, u1313, u1315] ∧ forS (m__law_covers_b1 masks_here0) (xs1307.drop i) s1312 = some t1310) ?_ ?_ ?_
    · intro G' H' w' e'
      exact ⟨covers_here_1296, (none), (none), (none), (none), w', e', rfl, hx1311⟩
    · rintro i1324 x1325 σ' G1320 H1323 hx1326 ⟨s1312, u1313, u1314, u1315, u1316, w1321, e1322, rfl, hm1318⟩
      obtain ⟨q1319, hb1317, hm1318⟩ := forS_at hx1326 hm1318
      have h1327 := Rep.mono _ e1322 h1304
      refine g_name ?_
      unfold m__law_covers_b1 at hb1317
      obtain ⟨n1328, hx1329, hb1317⟩ := bindS hb1317
      obtain ⟨xs1330, hx1331, hb1317⟩ := bindS hb1317
      obtain ⟨t1333, hx1334, hb1317⟩ := bindS hb1317
      refine x_forR w1321 (ea_cons (Sim.E.is (e_cb rc_lenL (ea_cons (e_var (R := (rL rI)) (x := masks_here0) rfl h1327) ea_nil)) hx1329) ea_nil) rfl hx1331 (fun i G' H' σ' => ∃ s1335 : (List (Int × Int)), ∃ u1336 : Option V, ∃ u1337 : Option V, ∃ u1338 : Option V, Wo G H [] G' H' [(p1300, cL (rP rI rI) s1335)] ∧ Evl.Ex G1320 G' ∧ σ' = [some vmasks_here0, some (V.ref p1300), some (V.int x1325), u1337, u1336, u1338] ∧ forS (m__law_covers_b2 masks_here0 x1325) (xs1330.drop i) s1335 = some t1333) ?_ ?_ ?_
      · intro G' H' w' e'
        exact ⟨s1312, (u1313), (u1314), (u1315), w', e', rfl, hx1334⟩
      · rintro i1346 x1347 σ' G1342 H1345 hx1348 ⟨s1335, u1336, u1337, u1338, w1343, e1344, rfl, hm1340⟩
        obtain ⟨q1341, hb1339, hm1340⟩ := forS_at hx1348 hm1340
        have h1349 := Rep.mono _ e1344 h1327
        refine g_name ?_
        unfold m__law_covers_b2 at hb1339
        obtain ⟨between_1357, hx1358, hb1339⟩ := bindS hb1339
        refine x_set w1343 (EL.e (el_lcR (j := 5) (ea_cons (e_cb rc_lenL (ea_cons (e_var (R := (rL rI)) (x := masks_here0) rfl h1349) ea_nil)) ea_nil) (fun _ => rfl) (fun x1353 G1354 W1355 eG1350 eW1351 eX1352 => (et_and (et_B (e_call (ea_cons (e_var (R := (rL rI)) (x := masks_here0) rfl (Rep.mono _ eX1352 (Rep.mono _ eG1350 h1349))) (ea_cons (e_var (R := rI) (x := x1325) rfl rfl) (ea_cons (e_var (R := rI) (x := x1353) rfl rfl) ea_nil))))) (et_B (e_call (ea_cons (e_var (R := (rL rI)) (x := masks_here0) rfl (Rep.mono _ eX1352 (Rep.mono _ eG1350 h1349))) (ea_cons (e_var (R := rI) (x := x1353) rfl rfl) (ea_cons (e_var (R := rI) (x := x1347) rfl rfl) ea_nil))))))) (fun x1353 G1354 W1355 eG1350 eW1351 eX1352 => (e_var (R := rI) (x := x1353) rfl rfl)))) (by first | (simp only [be1, bs1, ba1] at hx1358 ⊢; exact hx1358) | exact hx1358) ?_
        intro v1361 H1359 G1362 w1360 e1363 h1364
        have h1365 := Rep.mono _ e1363 h1349
        obtain ⟨s1378, hx1379, hb1339⟩ := bindS hb1339
        refine o_cut (fun σ' H' => ∃ G' : Hp, Wo G H [] G' H' [(p1300, cL (rP rI rI) s1378)] ∧ Evl.Ex G1362 G' ∧ σ' = [some vmasks_here0, some (V.ref p1300), some (V.int x1325), some (V.int x1347), some v1361, u1338]) ?_ ?_
        · obtain ⟨b1366, hx1383, hx1379⟩ := bindS hx1379
          refine x_if w1360 (et_andP (et_T (e_op rr_neI (e_var (R := rI) (x := x1325) rfl rfl) (e_var (R := rI) (x := x1347) rfl rfl))) (et_T (e_op rr_eqI (e_cb rc_lenL (ea_cons (e_var (R := (rL rI)) (x := between_1357) rfl (Rep.mono _ w1360.ex h1364)) ea_nil)) e_int))) hx1383 ?_ ?_
          · intro hbb1366 H1384 w1385
            subst hbb1366
            have hx1379 := bifT hx1379
            obtain ⟨a1386, hx1388, hx1379⟩ := bindS hx1379
            obtain ⟨covers_here_1387, hx1389, hx1379⟩ := bindS hx1379
            obtain ⟨hs1390, rfl⟩ := appM_ok hx1389
            refine x_app (j := 0) w1385 rfl hs1390 rfl (e_pair (e_var (R := rI) (x := x1325) rfl rfl) (e_var (R := rI) (x := x1347) rfl rfl)) hx1388 ?_
            intro H1391 G1392 w1393 e1394
            have h1395 := Rep.mono _ e1394 h1365
            have h1396 := Rep.mono _ e1394 h1364
            have w1393 : Wo G H [] G1392 H1391 [(p1300, cL (rP rI rI) (s1335 ++ [a1386]))] := w1393
            refine x_next ?_
            have hx1379 : (s1335 ++ [a1386]) = s1378 := Option.some.inj hx1379
            subst hx1379
            exact ⟨G1392, w1393, e1394, rfl⟩
          · intro hbb1366 H1397 w1398
            subst hbb1366
            have hx1379 := bifF hx1379
            refine x_next ?_
            have hx1379 : s1335 = s1378 := Option.some.inj hx1379
            subst hx1379
            exact ⟨G1362, w1398, (Evl.Ex.refl _), rfl⟩
        · rintro σ' H1402 ⟨G1399, w1381, e1380, rfl⟩
          have h1400 := Rep.mono _ e1380 h1365
          have h1401 := Rep.mono _ e1380 h1364
          refine x_next ?_
          have hb1339 : s1378 = q1341 := Option.some.inj hb1339
          subst hb1339
          exact ⟨G1399, s1378, (some v1361), (some (V.int x1347)), (u1338), w1381, ((e1344.trans e1363).trans e1380), rfl, hm1340⟩
      · rintro σ' G1403 H1406 ⟨s1335, u1336, u1337, u1338, w1404, e1405, rfl, hm1340⟩
        have hm1340 := forS_end hm1340
        subst hm1340
        have h1408 := Rep.mono _ e1405 h1327
        refine x_next ?_
        have hb1317 : s1335 = q1319 := Option.some.inj hb1317
        subst hb1317
        exact ⟨G1403, s1335, (u1336), (u1337), (u1338), (some (V.int x1325)), w1404, (e1322.trans e1405), rfl, hm1318⟩
    · rintro σ' G1409 H1412 ⟨s1312, u1313, u1314, u1315, u1316, w1410, e1411, rfl, hm1318⟩
      have hm1318 := forS_end hm1318
      subst hm1318
      have h1414 := Rep.mono _ e1411 h1304
      have h : s1312 = r := Option.some.inj h
      subst h
      refine x_retO (o_var rfl ?_)
      exact k _ _ _ n1302 w1410.upE (w1410.sub1 (i := 0) rfl)
def m__law_spoilt_b1 (x1445 : Int) (s1435 : ((List (Int × Int)) × (List Int))) : Option ((List (Int × Int)) × (List Int)) :=
  ((some (decide ((0 : Int) < (s1435.1.length : Int))) >>= fun b1447 => bif b1447 then (some (s1435.1.length : Int) >>= fun x1476 => (m__law_draw s1435.2 x1476 >>= fun x1481 => (popAtM s1435.1 x1481.1 >>= fun x1490 => some (x1490.2, x1481.2)))) else some (s1435.1, s1435.2)) >>= fun s1468 => some ((s1468.1, s1468.2)))
def m__law_spoilt_b2 (out_2305 : Int) (x2297 : Int) (x2348 : Int) (s2337 : ((List (Int × Int)) × (List Int))) : Option ((List (Int × Int)) × (List Int)) :=
  ((mulM (2 : Int) out_2305 >>= fun t2350 => some (x2297 + t2350)) >>= fun x2351 => (m__law_draw s2337.2 x2351 >>= fun x2356 => (some out_2305 >>= fun x2365 => (some (x2356.1 - x2365) >>= fun x2369 => (some x2369 >>= fun x2377 => ((mulM (2 : Int) out_2305 >>= fun t2382 => some (x2297 + t2382)) >>= fun x2383 => (m__law_draw x2356.2 x2383 >>= fun x2388 => (some out_2305 >>= fun x2397 => (some (x2388.1 - x2397) >>= fun x2401 => (appM s2337.1 (x2377, x2401) >>= fun pairs_2417 => some ((pairs_2417, x2388.2))))))))))))
def m__law_spoilt (pot_here0 : (List Int)) (size0 : Int) (pairs0 : (List (Int × Int))) : Option ((Int × (List (Int × Int))) × (List Int)) :=
  (some (9 : Int) >>= fun x1415 => (m__law_draw pot_here0 x1415 >>= fun x1420 => (atI ([(0 : Int), (1 : Int), (2 : Int), (0 : Int), (0 : Int), (0 : Int), (0 : Int), (1 : Int), (0 : Int)]) x1420.1 >>= fun n1428 => rngM 0 n1428 >>= fun xs1430 => forS (m__law_spoilt_b1) xs1430 (pairs0, x1420.2) >>= fun s1435 => ((some ((x1420.1 == (3 : Int)) || (x1420.1 == (7 : Int))) >>= fun b1505 => bif b1505 then (some size0 >>= fun x1569 => (m__law_draw s1435.2 x1569 >>= fun x1574 => (some size0 >>= fun x1582 => (m__law_draw x1574.2 x1582 >>= fun x1587 => (some ((s1435.1.length : Int) + (1 : Int)) >>= fun x1595 => (m__law_draw x1587.2 x1595 >>= fun x1600 => (some (x1574.1, x1587.1) >>= fun x1609 => (insM s1435.1 x1600.1 x1609 >>= fun pairs_1618 => some (pairs_1618, x1600.2))))))))) else some (s1435.1, s1435.2)) >>= fun s1559 => ((some (x1420.1 == (4 : Int)) >>= fun b1626 => bif b1626 then (some (5 : Int) >>= fun x1822 => (m__law_draw s1559.2 x1822 >>= fun x1827 => ((powM (10 : Int) (17 : Int) >>= fun t1835 => some ([size0, (-(1 : Int)), ((size0 + (1 : Int)) + x1827.1), t1835, ((-(2 : Int)) - x1827.1)])) >>= fun x1836 => (some (5 : Int) >>= fun x1845 => (m__law_draw x1827.2 x1845 >>= fun x1850 => (atI x1836 x1850.1 >>= fun x1859 => (some x1859 >>= fun x1868 => (some size0 >>= fun x1873 => (m__law_draw x1850.2 x1873 >>= fun x1878 => ((some (2 : Int) >>= fun x1937 => (m__law_draw x1878.2 x1937 >>= fun x1942 => (some (1 : Int) >>= fun x1952 => (some (x1942.1 == x1952) >>= fun x1956 => (bif x1956 then (some (((x1868, x1878.1).2), x1859) >>= fun pair_1965 => some (pair_1965, x1942.2)) else some ((x1868, x1878.1), x1942.2)))))) >>= fun s1931 => (some ((s1559.1.length : Int) + (1 : Int)) >>= fun x1977 => (m__law_draw s1931.2 x1977 >>= fun x1982 => (some s1931.1 >>= fun x1992 => (insM s1559.1 x1982.1 x1992 >>= fun pairs_2002 => some (pairs_2002, x1982.2))))))))))))))) else some (s1559.1, s1559.2)) >>= fun s1811 => ((some (x1420.1 == (5 : Int)) >>= fun b2010 => bif b2010 then (some (5 : Int) >>= fun x2066 => (m__law_draw s1811.2 x2066 >>= fun x2071 => ((powM (10 : Int) (17 : Int) >>= fun t2079 => some ([(0 : Int), ((-(1 : Int)) - x2071.1), ((13 : Int) + x2071.1), (12 : Int), t2079, (size0 + (1 : Int))])) >>= fun x2080 => (some (6 : Int) >>= fun x2089 => (m__law_draw x2071.2 x2089 >>= fun x2094 => (atI x2080 x2094.1 >>= fun x2103 => some (x2094.2, x2103))))))) else some (s1811.2, size0)) >>= fun s2057 => ((some ((x1420.1 == (6 : Int)) || (x1420.1 == (8 : Int))) >>= fun b2116 => bif b2116 then (some (1 : Int) >>= fun x2279 => (some (6 : Int) >>= fun x2284 => (m__law_draw s2057.1 x2284 >>= fun x2289 => (some (x2279 + x2289.1) >>= fun x2297 => (some (if (x1420.1 == (8 : Int)) = true then (1 : Int) else 0) >>= fun out_2305 => (some ([]) >>= fun pairs_2309 => (some (8 : Int) >>= fun x2318 => (m__law_draw x2289.2 x2318 >>= fun x2323 => (rngM 0 x2323.1 >>= fun xs2332 => forS (m__law_spoilt_b2 out_2305 x2297) xs2332 (pairs_2309, x2323.2) >>= fun s2337 => some (s2337.1, (s2337.2, x2297))))))))))) else some (s1811.1, (s2057.1, s2057.2))) >>= fun s2266 => (some (s2266.2.2, s2266.1) >>= fun a2437 => some (a2437, s2266.2.1)))))))))
theorem sc__law_spoilt : FnScope ["_law_pot_here", "_law_size", "_law_pairs", "_law_kind", "_law_k", "_law_low", "_law_high", "_law_far", "_law_bad", "_law_pair", "_law_out"] ["_law_pot_here", "_law_size", "_law_pairs"] (defScope s__law_spoilt) := ⟨rfl, rfl, rfl, by decide +kernel, rfl, by decide +kernel, by decide +kernel⟩
theorem ok__law_spoilt (T : Tx K mg) : Fk P w K mg base CX0 2 "_law_spoilt" ["_law_pot_here", "_law_size", "_law_pairs"] (PMo (aC rA (aC rI (aC rA aN))) (fun i => i.1) (fun i => i.2.2.1) rI (rP rI rI) (rP rI (rL (rP rI rI))) (fun ys zs i => m__law_spoilt ys i.2.1 zs)) := by
  obtain ⟨fd__law_draw, G__law_draw, b__law_draw, k__law_draw, g__law_draw⟩ := ok__law_draw (w := w) (base := base) T
  obtain ⟨fd, F⟩ := T.def_ 16 rfl
  have nd := sc__law_spoilt.nd
  refine fk_mk T.toTx (x := "_law_spoilt") (T.glo 22 rfl) F (fun _ _ _ _ _ _ us hl => match us, hl with | [_, _, _], _ => rfl) (F.ok sc__law_spoilt (fun vs H Q E h => ?_) (fun cdv A outer s H vs Q E hr h => ?_))
  · obtain ⟨G, ⟨l, ⟨size0, lo, ⟨⟩⟩⟩, pot_here0, pairs0, r, k', ⟨_, _, rfl, rfl, ⟨vsize0, _, rfl, hsize0, _, _, rfl, rfl, rfl⟩⟩, wd, h, k⟩ := h
    rfl
  · obtain ⟨G, ⟨l, ⟨size0, lo, ⟨⟩⟩⟩, pot_here0, pairs0, r, k', ⟨_, _, rfl, rfl, ⟨vsize0, _, rfl, hsize0, _, _, rfl, rfl, rfl⟩⟩, wd, h, k⟩ := h
    cases hsize0
    have e0 : Evl.Ex G H := wd.ex
    have w0 : Wo G (del H lo) [l] G H _ := Wo.startO wd
    have h : m__law_spoilt pot_here0 size0 pairs0 = some (r, k') := h
    unfold m__law_spoilt at h
    refine ⟨_, PSs.nox (pss_cons (ps_set (i := 3) nd rfl (Or.inl rfl) (pe_call G__law_draw (hr.mono (by decide)) rfl g__law_draw k__law_draw b__law_draw .nil pass0 (pa_cons (pv 0) (pa_cons pe_int pa_nil)))) (pss_cons (ps_for PassesOwn.never rfl (pi_range1 (by rfl) (fr_range T) (pa_cons (pe_ix (r := rIxL K) ix_list (pe_lst (pa_cons pe_int (pa_cons pe_int (pa_cons pe_int (pa_cons pe_int (pa_cons pe_int (pa_cons pe_int (pa_cons pe_int (pa_cons pe_int (pa_cons pe_int pa_nil)))))))))) (pv 3) (fun _ _ => rfl)) pa_nil)) (pg_name (i := 4) nd rfl (Or.inl rfl)) (Evl.pss_cut (ps_if (pt_cmpR op_gt (pe_callB (r := rLn K) call_len_seq (by rfl) (fr_len T) (by decide +kernel) (pa_cons (pv 2) pa_nil)) pe_int (nomark _)) (pss_cons (ps_expr (pe_bm PySem.F.plainAttrs_list PySem.F.slot_list_pop PySem.F.type_list_pop mt_popAt (pv 2) (pa_cons (pe_call G__law_draw (hr.mono (by decide)) rfl g__law_draw k__law_draw b__law_draw .nil pass0 (pa_cons (pv 0) (pa_cons (pe_callB (r := rLn K) call_len_seq (by rfl) (fr_len T) (by decide +kernel) (pa_cons (pv 2) pa_nil)) pa_nil))) pa_nil))) pss_nil) pss_nil) pss_nil)) (Evl.pss_cut (ps_if (PW.pt (pw_or (pt_cmpR op_eq (pv 3) pe_int (nomark _)) (pw_or1 (pt_cmpR op_eq (pv 3) pe_int (nomark _))))) (pss_cons (ps_set (i := 5) nd rfl (Or.inl rfl) (pe_call G__law_draw (hr.mono (by decide)) rfl g__law_draw k__law_draw b__law_draw .nil pass0 (pa_cons (pv 0) (pa_cons (pv 1) pa_nil)))) (pss_cons (ps_set (i := 6) nd rfl (Or.inl rfl) (pe_call G__law_draw (hr.mono (by decide)) rfl g__law_draw k__law_draw b__law_draw .nil pass0 (pa_cons (pv 0) (pa_cons (pv 1) pa_nil)))) (pss_cons (ps_expr (pe_bm PySem.F.plainAttrs_list PySem.F.slot_list_insert PySem.F.type_list_insert mt_insN (pv 2) (pa_cons (pe_call G__law_draw (hr.mono (by decide)) rfl g__law_draw k__law_draw b__law_draw .nil pass0 (pa_cons (pv 0) (pa_cons (pe_op op_add (pe_callB (r := rLn K) call_len_seq (by rfl) (fr_len T) (by decide +kernel) (pa_cons (pv 2) pa_nil)) pe_int) pa_nil))) (pa_cons (pe_tup (pa_cons (pv 5) (pa_cons (pv 6) pa_nil))) pa_nil)))) pss_nil))) pss_nil) (Evl.pss_cut (ps_if (pt_cmpR op_eq (pv 3) pe_int (nomark _)) (pss_cons (ps_set (i := 7) nd rfl (Or.inl rfl) (pe_call G__law_draw (hr.mono (by decide)) rfl g__law_draw k__law_draw b__law_draw .nil pass0 (pa_cons (pv 0) (pa_cons pe_int pa_nil)))) (pss_cons (ps_set (i := 8) nd rfl (Or.inl rfl) (pe_ix (r := rIxL K) ix_list (pe_lst (pa_cons (pv 1) (pa_cons (pe_un un_neg pe_int) (pa_cons (pe_op op_add (pe_op op_add (pv 1) pe_int) (pv 7)) (pa_cons (pe_op op_pow pe_int pe_int) (pa_cons (pe_op op_sub (pe_un un_neg pe_int) (pv 7)) pa_nil)))))) (pe_call G__law_draw (hr.mono (by decide)) rfl g__law_draw k__law_draw b__law_draw .nil pass0 (pa_cons (pv 0) (pa_cons pe_int pa_nil))) (fun _ _ => rfl))) (pss_cons (ps_set (i := 9) nd rfl (Or.inl rfl) (pe_tup (pa_cons (pv 8) (pa_cons (pe_call G__law_draw (hr.mono (by decide)) rfl g__law_draw k__law_draw b__law_draw .nil pass0 (pa_cons (pv 0) (pa_cons (pv 1) pa_nil))) pa_nil)))) (Evl.pss_cut (ps_if (pt_cmpR op_eq (pe_call G__law_draw (hr.mono (by decide)) rfl g__law_draw k__law_draw b__law_draw .nil pass0 (pa_cons (pv 0) (pa_cons pe_int pa_nil))) pe_int (nomark _)) (pss_cons (ps_set (i := 9) nd rfl (Or.inl rfl) (pe_tup (pa_cons (pe_ix (r := rIxT K) ix_tup (pv 9) pe_int (fun _ _ => rfl)) (pa_cons (pv 8) pa_nil)))) pss_nil) pss_nil) (pss_cons (ps_expr (pe_bm PySem.F.plainAttrs_list PySem.F.slot_list_insert PySem.F.type_list_insert mt_insN (pv 2) (pa_cons (pe_call G__law_draw (hr.mono (by decide)) rfl g__law_draw k__law_draw b__law_draw .nil pass0 (pa_cons (pv 0) (pa_cons (pe_op op_add (pe_callB (r := rLn K) call_len_seq (by rfl) (fr_len T) (by decide +kernel) (pa_cons (pv 2) pa_nil)) pe_int) pa_nil))) (pa_cons (pv 9) pa_nil)))) pss_nil))))) pss_nil) (Evl.pss_cut (ps_if (pt_cmpR op_eq (pv 3) pe_int (nomark _)) (pss_cons (ps_set (i := 7) nd rfl (Or.inl rfl) (pe_call G__law_draw (hr.mono (by decide)) rfl g__law_draw k__law_draw b__law_draw .nil pass0 (pa_cons (pv 0) (pa_cons pe_int pa_nil)))) (pss_cons (ps_set (i := 1) nd rfl (Or.inl rfl) (pe_ix (r := rIxL K) ix_list (pe_lst (pa_cons pe_int (pa_cons (pe_op op_sub (pe_un un_neg pe_int) (pv 7)) (pa_cons (pe_op op_add pe_int (pv 7)) (pa_cons pe_int (pa_cons (pe_op op_pow pe_int pe_int) (pa_cons (pe_op op_add (pv 1) pe_int) pa_nil))))))) (pe_call G__law_draw (hr.mono (by decide)) rfl g__law_draw k__law_draw b__law_draw .nil pass0 (pa_cons (pv 0) (pa_cons pe_int pa_nil))) (fun _ _ => rfl))) pss_nil)) pss_nil) (Evl.pss_cut (ps_if (PW.pt (pw_or (pt_cmpR op_eq (pv 3) pe_int (nomark _)) (pw_or1 (pt_cmpR op_eq (pv 3) pe_int (nomark _))))) (pss_cons (ps_set (i := 1) nd rfl (Or.inl rfl) (pe_op op_add pe_int (pe_call G__law_draw (hr.mono (by decide)) rfl g__law_draw k__law_draw b__law_draw .nil pass0 (pa_cons (pv 0) (pa_cons pe_int pa_nil))))) (pss_cons (ps_set (i := 10) nd rfl (Or.inl rfl) (pe_callTy call_int1 (by rfl) (fr_int T) (by decide +kernel) (pa_cons (pe_cmpR op_eq (pv 3) pe_int (nomark _)) pa_nil))) (pss_cons (ps_set (i := 2) nd rfl (Or.inl rfl) (pe_lst pa_nil)) (pss_cons (ps_for PassesOwn.never rfl (pi_range1 (by rfl) (fr_range T) (pa_cons (pe_call G__law_draw (hr.mono (by decide)) rfl g__law_draw k__law_draw b__law_draw .nil pass0 (pa_cons (pv 0) (pa_cons pe_int pa_nil))) pa_nil)) (pg_name (i := 4) nd rfl (Or.inl rfl)) (pss_cons (ps_set (i := 5) nd rfl (Or.inl rfl) (pe_op op_sub (pe_call G__law_draw (hr.mono (by decide)) rfl g__law_draw k__law_draw b__law_draw .nil pass0 (pa_cons (pv 0) (pa_cons (pe_op op_add (pv 1) (pe_op op_mul pe_int (pv 10))) pa_nil))) (pv 10))) (pss_cons (ps_expr (pe_bm PySem.F.plainAttrs_list PySem.F.slot_list_append PySem.F.type_list_append mt_append (pv 2) (pa_cons (pe_tup (pa_cons (pv 5) (pa_cons (pe_op op_sub (pe_call G__law_draw (hr.mono (by decide)) rfl g__law_draw k__law_draw b__law_draw .nil pass0 (pa_cons (pv 0) (pa_cons (pe_op op_add (pv 1) (pe_op op_mul pe_int (pv 10))) pa_nil))) (pv 10)) pa_nil))) pa_nil))) pss_nil))) pss_nil)))) pss_nil) (pss_cons (ps_ret (pe_tup (pa_cons (pv 1) (pa_cons (pv 2) pa_nil)))) pss_nil))))))), ?_⟩
    refine x_setO ?_
    refine o_call ?_
    refine o_cons ?_
    refine o_var rfl ?_
    refine o_cons ?_
    obtain ⟨x1415, hx1416, h⟩ := bindS h
    refine c_i w0 e_int hx1416 ?_
    intro H1417 w1418
    refine o_nil ?_
    obtain ⟨x1420, hx1421, h⟩ := bindS h
    refine c_p1 (i := 0) (j := (x1415, ())) w1418 rfl ⟨_, _, rfl, rfl, rfl⟩ hx1421 ?_
    intro u1422 H1423 G1424 w1425 e1426 r1427
    cases r1427
    have w1425 : Wo G (del H lo) [l] G1424 H1423 [(l, cL rI x1420.2), (lo, cL (rP rI rI) pairs0)] := w1425
    obtain ⟨n1428, hx1429, h⟩ := bindS h
    obtain ⟨xs1430, hx1431, h⟩ := bindS h
    obtain ⟨t1433, hx1434, h⟩ := bindS h
    refine x_forR w1425 (ea_cons (Sim.E.is (e_op rr_ixL (EL.e (el_disp (eal_cons e_int (eal_cons e_int (eal_cons e_int (eal_cons e_int (eal_cons e_int (eal_cons e_int (eal_cons e_int (eal_cons e_int (eal_cons e_int eal_nil))))))))))) (e_var (R := rI) (x := x1420.1) rfl rfl)) (by first | (simp only [be1, bs1, ba1] at hx1429 ⊢; exact hx1429) | exact hx1429)) ea_nil) rfl hx1431 (fun i G' H' σ' => ∃ s1435 : ((List (Int × Int)) × (List Int)), ∃ u1436 : Option V, Wo G (del H lo) [l] G' H' [(l, cL rI s1435.2), (lo, cL (rP rI rI) s1435.1)] ∧ Evl.Ex G1424 G' ∧ σ' = [some (V.ref l), some (V.int size0), some (V.ref lo), some (V.int x1420.1), u1436, none, none, none, none, none, none] ∧ forS (m__law_spoilt_b1) (xs1430.drop i) s1435 = some t1433) ?_ ?_ ?_
    · intro G' H' w' e'
      exact ⟨(pairs0, x1420.2), (none), w', e', rfl, hx1434⟩
    · rintro i1444 x1445 σ' G1440 H1443 hx1446 ⟨s1435, u1436, w1441, e1442, rfl, hm1438⟩
      obtain ⟨q1439, hb1437, hm1438⟩ := forS_at hx1446 hm1438
      refine g_name ?_
      unfold m__law_spoilt_b1 at hb1437
      obtain ⟨s1468, hx1469, hb1437⟩ := bindS hb1437
      refine o_cut (fun σ' H' => ∃ G' : Hp, Wo G (del H lo) [l] G' H' [(l, cL rI s1468.2), (lo, cL (rP rI rI) s1468.1)] ∧ Evl.Ex G1440 G' ∧ σ' = [some (V.ref l), some (V.int size0), some (V.ref lo), some (V.int x1420.1), some (V.int x1445), none, none, none, none, none, none]) ?_ ?_
      · obtain ⟨b1447, hx1473, hx1469⟩ := bindS hx1469
        refine x_if w1441 (et_T (e_op rr_gt (e_cb rc_lenL (ea_cons (e_var (R := (rL (rP rI rI))) (x := s1435.1) rfl (w1441.rlAt (i := 1) rfl)) ea_nil)) e_int)) hx1473 ?_ ?_
        · intro hbb1447 H1474 w1475
          subst hbb1447
          have hx1469 := bifT hx1469
          refine x_drop ?_
          refine o_bm (j := 1) w1475 rfl rfl ?_
          refine o_cons ?_
          refine o_call ?_
          refine o_cons ?_
          refine o_var rfl ?_
          refine o_cons ?_
          obtain ⟨x1476, hx1477, hx1469⟩ := bindS hx1469
          refine c_i w1475 (Sim.E.s scI (e_cb rc_lenL (ea_cons (e_var (R := (rL (rP rI rI))) (x := s1435.1) rfl (w1475.rlAt (i := 1) rfl)) ea_nil))) hx1477 ?_
          intro H1478 w1479
          refine o_nil ?_
          obtain ⟨x1481, hx1482, hx1469⟩ := bindS hx1469
          refine c_p1 (i := 0) (j := (x1476, ())) w1479 rfl ⟨_, _, rfl, rfl, rfl⟩ hx1482 ?_
          intro u1483 H1484 G1485 w1486 e1487 r1488
          cases r1488
          have w1486 : Wo G (del H lo) [l] G1485 H1484 [(l, cL rI x1481.2), (lo, cL (rP rI rI) s1435.1)] := w1486
          refine o_nil ?_
          obtain ⟨x1490, hx1491, hx1469⟩ := bindS hx1469
          refine c_popAt (j := 1) w1486 rfl hx1491 ?_
          intro v1492 H1493 w1494 r1495
          have w1494 : Wo G (del H lo) [l] G1485 H1493 [(l, cL rI x1481.2), (lo, cL (rP rI rI) x1490.2)] := w1494
          refine x_next ?_
          have hx1469 : (x1490.2, x1481.2) = s1468 := Option.some.inj hx1469
          subst hx1469
          exact ⟨G1485, w1494, e1487, rfl⟩
        · intro hbb1447 H1496 w1497
          subst hbb1447
          have hx1469 := bifF hx1469
          refine x_next ?_
          have hx1469 : (s1435.1, s1435.2) = s1468 := Option.some.inj hx1469
          subst hx1469
          exact ⟨G1440, w1497, (Evl.Ex.refl _), rfl⟩
      · rintro σ' H1499 ⟨G1498, w1471, e1470, rfl⟩
        refine x_next ?_
        have hb1437 : (s1468.1, s1468.2) = q1439 := Option.some.inj hb1437
        subst hb1437
        exact ⟨G1498, (s1468.1, s1468.2), (some (V.int x1445)), w1471, (e1442.trans e1470), rfl, hm1438⟩
    · rintro σ' G1500 H1503 ⟨s1435, u1436, w1501, e1502, rfl, hm1438⟩
      have hm1438 := forS_end hm1438
      subst hm1438
      obtain ⟨s1559, hx1560, h⟩ := bindS h
      refine o_cut (fun σ' H' => ∃ u1561 : Option V, ∃ u1562 : Option V, ∃ G' : Hp, Wo G (del H lo) [l] G' H' [(l, cL rI s1559.2), (lo, cL (rP rI rI) s1559.1)] ∧ Evl.Ex G1500 G' ∧ σ' = [some (V.ref l), some (V.int size0), some (V.ref lo), some (V.int x1420.1), u1436, u1562, u1561, none, none, none, none]) ?_ ?_
      · obtain ⟨b1505, hx1566, hx1560⟩ := bindS hx1560
        refine x_if w1501 (et_orP (et_T (e_op rr_eqI (e_var (R := rI) (x := x1420.1) rfl rfl) e_int)) (et_T (e_op rr_eqI (e_var (R := rI) (x := x1420.1) rfl rfl) e_int))) hx1566 ?_ ?_
        · intro hbb1505 H1567 w1568
          subst hbb1505
          have hx1560 := bifT hx1560
          refine x_setO ?_
          refine o_call ?_
          refine o_cons ?_
          refine o_var rfl ?_
          refine o_cons ?_
          obtain ⟨x1569, hx1570, hx1560⟩ := bindS hx1560
          refine c_i w1568 (e_var (R := rI) (x := size0) rfl rfl) hx1570 ?_
          intro H1571 w1572
          refine o_nil ?_
          obtain ⟨x1574, hx1575, hx1560⟩ := bindS hx1560
          refine c_p1 (i := 0) (j := (x1569, ())) w1572 rfl ⟨_, _, rfl, rfl, rfl⟩ hx1575 ?_
          intro u1576 H1577 G1578 w1579 e1580 r1581
          cases r1581
          have w1579 : Wo G (del H lo) [l] G1578 H1577 [(l, cL rI x1574.2), (lo, cL (rP rI rI) s1435.1)] := w1579
          refine x_setO ?_
          refine o_call ?_
          refine o_cons ?_
          refine o_var rfl ?_
          refine o_cons ?_
          obtain ⟨x1582, hx1583, hx1560⟩ := bindS hx1560
          refine c_i w1579 (e_var (R := rI) (x := size0) rfl rfl) hx1583 ?_
          intro H1584 w1585
          refine o_nil ?_
          obtain ⟨x1587, hx1588, hx1560⟩ := bindS hx1560
          refine c_p1 (i := 0) (j := (x1582, ())) w1585 rfl ⟨_, _, rfl, rfl, rfl⟩ hx1588 ?_
          intro u1589 H1590 G1591 w1592 e1593 r1594
          cases r1594
          have w1592 : Wo G (del H lo) [l] G1591 H1590 [(l, cL rI x1587.2), (lo, cL (rP rI rI) s1435.1)] := w1592
          refine x_drop ?_
          refine o_bm (j := 1) w1592 rfl rfl ?_
          refine o_cons ?_
          refine o_call ?_
          refine o_cons ?_
          refine o_var rfl ?_
          refine o_cons ?_
          obtain ⟨x1595, hx1596, hx1560⟩ := bindS hx1560
          refine c_i w1592 (Sim.E.s scI (e_op rr_add (e_cb rc_lenL (ea_cons (e_var (R := (rL (rP rI rI))) (x := s1435.1) rfl (w1592.rlAt (i := 1) rfl)) ea_nil)) e_int)) hx1596 ?_
          intro H1597 w1598
          refine o_nil ?_
          obtain ⟨x1600, hx1601, hx1560⟩ := bindS hx1560
          refine c_p1 (i := 0) (j := (x1595, ())) w1598 rfl ⟨_, _, rfl, rfl, rfl⟩ hx1601 ?_
          intro u1602 H1603 G1604 w1605 e1606 r1607
          cases r1607
          have w1605 : Wo G (del H lo) [l] G1604 H1603 [(l, cL rI x1600.2), (lo, cL (rP rI rI) s1435.1)] := w1605
          refine o_cons ?_
          obtain ⟨x1609, hx1610, hx1560⟩ := bindS hx1560
          refine c_e w1605 (e_pair (e_var (R := rI) (x := x1574.1) rfl rfl) (e_var (R := rI) (x := x1587.1) rfl rfl)) hx1610 ?_
          intro v1613 H1611 G1614 w1612 e1615 h1616
          refine o_nil ?_
          obtain ⟨pairs_1618, hx1619, hx1560⟩ := bindS hx1560
          refine c_ins (j := 1) w1612 rfl h1616 hx1619 ?_
          intro H1620 w1621
          have w1621 : Wo G (del H lo) [l] G1614 H1620 [(l, cL rI x1600.2), (lo, cL (rP rI rI) pairs_1618)] := w1621
          refine x_next ?_
          have hx1560 : (pairs_1618, x1600.2) = s1559 := Option.some.inj hx1560
          subst hx1560
          exact ⟨(some (V.int x1587.1)), (some (V.int x1574.1)), G1614, w1621, (((e1580.trans e1593).trans e1606).trans e1615), rfl⟩
        · intro hbb1505 H1622 w1623
          subst hbb1505
          have hx1560 := bifF hx1560
          refine x_next ?_
          have hx1560 : (s1435.1, s1435.2) = s1559 := Option.some.inj hx1560
          subst hx1560
          exact ⟨(none), (none), G1500, w1623, (Evl.Ex.refl _), rfl⟩
      · rintro σ' H1625 ⟨u1561, u1562, G1624, w1564, e1563, rfl⟩
        obtain ⟨s1811, hx1812, h⟩ := bindS h
        refine o_cut (fun σ' H' => ∃ u1813 : Option V, ∃ u1814 : Option V, ∃ u1815 : Option V, ∃ G' : Hp, Wo G (del H lo) [l] G' H' [(l, cL rI s1811.2), (lo, cL (rP rI rI) s1811.1)] ∧ Evl.Ex G1624 G' ∧ σ' = [some (V.ref l), some (V.int size0), some (V.ref lo), some (V.int x1420.1), u1436, u1562, u1561, u1814, u1813, u1815, none]) ?_ ?_
        · obtain ⟨b1626, hx1819, hx1812⟩ := bindS hx1812
          refine x_if w1564 (et_T (e_op rr_eqI (e_var (R := rI) (x := x1420.1) rfl rfl) e_int)) hx1819 ?_ ?_
          · intro hbb1626 H1820 w1821
            subst hbb1626
            have hx1812 := bifT hx1812
            refine x_setO ?_
            refine o_call ?_
            refine o_cons ?_
            refine o_var rfl ?_
            refine o_cons ?_
            obtain ⟨x1822, hx1823, hx1812⟩ := bindS hx1812
            refine c_i w1821 e_int hx1823 ?_
            intro H1824 w1825
            refine o_nil ?_
            obtain ⟨x1827, hx1828, hx1812⟩ := bindS hx1812
            refine c_p1 (i := 0) (j := (x1822, ())) w1825 rfl ⟨_, _, rfl, rfl, rfl⟩ hx1828 ?_
            intro u1829 H1830 G1831 w1832 e1833 r1834
            cases r1834
            have w1832 : Wo G (del H lo) [l] G1831 H1830 [(l, cL rI x1827.2), (lo, cL (rP rI rI) s1559.1)] := w1832
            refine x_setO ?_
            refine o_op ?_
            obtain ⟨x1836, hx1837, hx1812⟩ := bindS hx1812
            refine c_e w1832 (EL.e (el_disp (eal_cons (e_var (R := rI) (x := size0) rfl rfl) (eal_cons (e_neg e_int) (eal_cons (e_op rr_add (e_op rr_add (e_var (R := rI) (x := size0) rfl rfl) e_int) (e_var (R := rI) (x := x1827.1) rfl rfl)) (eal_cons (e_op rr_pow e_int e_int) (eal_cons (e_op rr_sub (e_neg e_int) (e_var (R := rI) (x := x1827.1) rfl rfl)) eal_nil))))))) (by first | (simp only [be1, bs1, ba1] at hx1837 ⊢; exact hx1837) | exact hx1837) ?_
            intro v1840 H1838 G1841 w1839 e1842 h1843
            refine o_call ?_
            refine o_cons ?_
            refine o_var rfl ?_
            refine o_cons ?_
            obtain ⟨x1845, hx1846, hx1812⟩ := bindS hx1812
            refine c_i w1839 e_int hx1846 ?_
            intro H1847 w1848
            refine o_nil ?_
            obtain ⟨x1850, hx1851, hx1812⟩ := bindS hx1812
            refine c_p1 (i := 0) (j := (x1845, ())) w1848 rfl ⟨_, _, rfl, rfl, rfl⟩ hx1851 ?_
            intro u1852 H1853 G1854 w1855 e1856 r1857
            have h1858 := Rep.mono _ e1856 h1843
            cases r1857
            have w1855 : Wo G (del H lo) [l] G1854 H1853 [(l, cL rI x1850.2), (lo, cL (rP rI rI) s1559.1)] := w1855
            obtain ⟨x1859, hx1860, hx1812⟩ := bindS hx1812
            refine c_rr rr_ixL w1855 h1858 rfl hx1860 ?_
            intro u1861 H1862 G1863 w1864 e1865 r1866
            have h1867 := Rep.mono _ e1865 h1858
            cases r1866
            refine x_setO ?_
            refine o_tup ?_
            refine o_cons ?_
            obtain ⟨x1868, hx1869, hx1812⟩ := bindS hx1812
            refine c_i w1864 (e_var (R := rI) (x := x1859) rfl rfl) hx1869 ?_
            intro H1870 w1871
            refine o_cons ?_
            refine o_call ?_
            refine o_cons ?_
            refine o_var rfl ?_
            refine o_cons ?_
            obtain ⟨x1873, hx1874, hx1812⟩ := bindS hx1812
            refine c_i w1871 (e_var (R := rI) (x := size0) rfl rfl) hx1874 ?_
            intro H1875 w1876
            refine o_nil ?_
            obtain ⟨x1878, hx1879, hx1812⟩ := bindS hx1812
            refine c_p1 (i := 0) (j := (x1873, ())) w1876 rfl ⟨_, _, rfl, rfl, rfl⟩ hx1879 ?_
            intro u1880 H1881 G1882 w1883 e1884 r1885
            cases r1885
            have w1883 : Wo G (del H lo) [l] G1882 H1881 [(l, cL rI x1878.2), (lo, cL (rP rI rI) s1559.1)] := w1883
            refine o_nil ?_
            refine c_pairO (R := rI) (S := rI) (x := x1868) (y := x1878.1) w1883 rfl rfl ?_
            intro v1887 H1892 G1888 w1889 e1890 h1891
            obtain ⟨s1931, hx1932, hx1812⟩ := bindS hx1812
            refine o_cut (fun σ' H' => ∃ v1933 : V, ∃ G' : Hp, Wo G (del H lo) [l] G' H' [(l, cL rI s1931.2), (lo, cL (rP rI rI) s1559.1)] ∧ Evl.Ex G1888 G' ∧ σ' = [some (V.ref l), some (V.int size0), some (V.ref lo), some (V.int x1420.1), u1436, u1562, u1561, some (V.int x1827.1), some (V.int x1859), some v1933, none] ∧ (rP rI rI).r G' v1933 s1931.1) ?_ ?_
            · refine o_if ?_
              refine o_T ?_
              refine o_op ?_
              refine o_call ?_
              refine o_cons ?_
              refine o_var rfl ?_
              refine o_cons ?_
              obtain ⟨x1937, hx1938, hx1932⟩ := bindS hx1932
              refine c_i w1889 e_int hx1938 ?_
              intro H1939 w1940
              refine o_nil ?_
              obtain ⟨x1942, hx1943, hx1932⟩ := bindS hx1932
              refine c_p1 (i := 0) (j := (x1937, ())) w1940 rfl ⟨_, _, rfl, rfl, rfl⟩ hx1943 ?_
              intro u1944 H1945 G1946 w1947 e1948 r1949
              have h1950 := Rep.mono _ e1948 h1891
              cases r1949
              have w1947 : Wo G (del H lo) [l] G1946 H1945 [(l, cL rI x1942.2), (lo, cL (rP rI rI) s1559.1)] := w1947
              obtain ⟨x1952, hx1953, hx1932⟩ := bindS hx1932
              refine c_i w1947 e_int hx1953 ?_
              intro H1954 w1955
              obtain ⟨x1956, hx1957, hx1932⟩ := bindS hx1932
              refine c_rr rr_eqI w1955 rfl rfl hx1957 ?_
              intro u1958 H1959 G1960 w1961 e1962 r1963
              have h1964 := Rep.mono _ e1962 h1950
              cases r1963
              refine ⟨_, rfl, ite_b ?_ ?_⟩
              · intro hb1974
                rw [hb1974] at hx1932
                have hx1932 := bifT hx1932
                obtain ⟨pair_1965, hx1966, hx1932⟩ := bindS hx1932
                refine x_set w1961 (e_pair (e_snd (e_var (R := (rP rI rI)) (x := (x1868, x1878.1)) rfl h1964)) (e_var (R := rI) (x := x1859) rfl rfl)) hx1966 ?_
                intro v1969 H1967 G1970 w1968 e1971 h1972
                have h1973 := Rep.mono _ e1971 h1964
                refine x_next ?_
                have hx1932 : (pair_1965, x1942.2) = s1931 := Option.some.inj hx1932
                subst hx1932
                exact ⟨v1969, G1970, w1968, ((e1948.trans e1962).trans e1971), rfl, h1972⟩
              · intro hb1974
                rw [hb1974] at hx1932
                have hx1932 := bifF hx1932
                refine x_next ?_
                have hx1932 : ((x1868, x1878.1), x1942.2) = s1931 := Option.some.inj hx1932
                subst hx1932
                exact ⟨v1887, G1960, w1961, (e1948.trans e1962), rfl, h1964⟩
            · rintro σ' H1976 ⟨v1933, G1975, w1936, e1935, rfl, h1934⟩
              refine x_drop ?_
              refine o_bm (j := 1) w1936 rfl rfl ?_
              refine o_cons ?_
              refine o_call ?_
              refine o_cons ?_
              refine o_var rfl ?_
              refine o_cons ?_
              obtain ⟨x1977, hx1978, hx1812⟩ := bindS hx1812
              refine c_i w1936 (Sim.E.s scI (e_op rr_add (e_cb rc_lenL (ea_cons (e_var (R := (rL (rP rI rI))) (x := s1559.1) rfl (w1936.rlAt (i := 1) rfl)) ea_nil)) e_int)) hx1978 ?_
              intro H1979 w1980
              refine o_nil ?_
              obtain ⟨x1982, hx1983, hx1812⟩ := bindS hx1812
              refine c_p1 (i := 0) (j := (x1977, ())) w1980 rfl ⟨_, _, rfl, rfl, rfl⟩ hx1983 ?_
              intro u1984 H1985 G1986 w1987 e1988 r1989
              have h1990 := Rep.mono _ e1988 h1934
              cases r1989
              have w1987 : Wo G (del H lo) [l] G1986 H1985 [(l, cL rI x1982.2), (lo, cL (rP rI rI) s1559.1)] := w1987
              refine o_cons ?_
              obtain ⟨x1992, hx1993, hx1812⟩ := bindS hx1812
              refine c_e w1987 (e_var (R := (rP rI rI)) (x := s1931.1) rfl h1990) hx1993 ?_
              intro v1996 H1994 G1997 w1995 e1998 h1999
              have h2000 := Rep.mono _ e1998 h1990
              refine o_nil ?_
              obtain ⟨pairs_2002, hx2003, hx1812⟩ := bindS hx1812
              refine c_ins (j := 1) w1995 rfl h1999 hx2003 ?_
              intro H2004 w2005
              have w2005 : Wo G (del H lo) [l] G1997 H2004 [(l, cL rI x1982.2), (lo, cL (rP rI rI) pairs_2002)] := w2005
              refine x_next ?_
              have hx1812 : (pairs_2002, x1982.2) = s1811 := Option.some.inj hx1812
              subst hx1812
              exact ⟨(some (V.int x1859)), (some (V.int x1827.1)), (some v1933), G1997, w2005, ((((((((e1833.trans e1842).trans e1856).trans e1865).trans e1884).trans e1890).trans e1935).trans e1988).trans e1998), rfl⟩
          · intro hbb1626 H2006 w2007
            subst hbb1626
            have hx1812 := bifF hx1812
            refine x_next ?_
            have hx1812 : (s1559.1, s1559.2) = s1811 := Option.some.inj hx1812
            subst hx1812
            exact ⟨(none), (none), (none), G1624, w2007, (Evl.Ex.refl _), rfl⟩
        · rintro σ' H2009 ⟨u1813, u1814, u1815, G2008, w1817, e1816, rfl⟩
          obtain ⟨s2057, hx2058, h⟩ := bindS h
          refine o_cut (fun σ' H' => ∃ u2059 : Option V, ∃ G' : Hp, Wo G (del H lo) [l] G' H' [(l, cL rI s2057.1), (lo, cL (rP rI rI) s1811.1)] ∧ Evl.Ex G2008 G' ∧ σ' = [some (V.ref l), some (V.int s2057.2), some (V.ref lo), some (V.int x1420.1), u1436, u1562, u1561, u2059, u1813, u1815, none]) ?_ ?_
          · obtain ⟨b2010, hx2063, hx2058⟩ := bindS hx2058
            refine x_if w1817 (et_T (e_op rr_eqI (e_var (R := rI) (x := x1420.1) rfl rfl) e_int)) hx2063 ?_ ?_
            · intro hbb2010 H2064 w2065
              subst hbb2010
              have hx2058 := bifT hx2058
              refine x_setO ?_
              refine o_call ?_
              refine o_cons ?_
              refine o_var rfl ?_
              refine o_cons ?_
              obtain ⟨x2066, hx2067, hx2058⟩ := bindS hx2058
              refine c_i w2065 e_int hx2067 ?_
              intro H2068 w2069
              refine o_nil ?_
              obtain ⟨x2071, hx2072, hx2058⟩ := bindS hx2058
              refine c_p1 (i := 0) (j := (x2066, ())) w2069 rfl ⟨_, _, rfl, rfl, rfl⟩ hx2072 ?_
              intro u2073 H2074 G2075 w2076 e2077 r2078
              cases r2078
              have w2076 : Wo G (del H lo) [l] G2075 H2074 [(l, cL rI x2071.2), (lo, cL (rP rI rI) s1811.1)] := w2076
              refine x_setO ?_
              refine o_op ?_
              obtain ⟨x2080, hx2081, hx2058⟩ := bindS hx2058
              refine c_e w2076 (EL.e (el_disp (eal_cons e_int (eal_cons (e_op rr_sub (e_neg e_int) (e_var (R := rI) (x := x2071.1) rfl rfl)) (eal_cons (e_op rr_add e_int (e_var (R := rI) (x := x2071.1) rfl rfl)) (eal_cons e_int (eal_cons (e_op rr_pow e_int e_int) (eal_cons (e_op rr_add (e_var (R := rI) (x := size0) rfl rfl) e_int) eal_nil)))))))) (by first | (simp only [be1, bs1, ba1] at hx2081 ⊢; exact hx2081) | exact hx2081) ?_
              intro v2084 H2082 G2085 w2083 e2086 h2087
              refine o_call ?_
              refine o_cons ?_
              refine o_var rfl ?_
              refine o_cons ?_
              obtain ⟨x2089, hx2090, hx2058⟩ := bindS hx2058
              refine c_i w2083 e_int hx2090 ?_
              intro H2091 w2092
              refine o_nil ?_
              obtain ⟨x2094, hx2095, hx2058⟩ := bindS hx2058
              refine c_p1 (i := 0) (j := (x2089, ())) w2092 rfl ⟨_, _, rfl, rfl, rfl⟩ hx2095 ?_
              intro u2096 H2097 G2098 w2099 e2100 r2101
              have h2102 := Rep.mono _ e2100 h2087
              cases r2101
              have w2099 : Wo G (del H lo) [l] G2098 H2097 [(l, cL rI x2094.2), (lo, cL (rP rI rI) s1811.1)] := w2099
              obtain ⟨x2103, hx2104, hx2058⟩ := bindS hx2058
              refine c_rr rr_ixL w2099 h2102 rfl hx2104 ?_
              intro u2105 H2106 G2107 w2108 e2109 r2110
              have h2111 := Rep.mono _ e2109 h2102
              cases r2110
              refine x_next ?_
              have hx2058 : (x2094.2, x2103) = s2057 := Option.some.inj hx2058
              subst hx2058
              exact ⟨(some (V.int x2071.1)), G2107, w2108, (((e2077.trans e2086).trans e2100).trans e2109), rfl⟩
            · intro hbb2010 H2112 w2113
              subst hbb2010
              have hx2058 := bifF hx2058
              refine x_next ?_
              have hx2058 : (s1811.2, size0) = s2057 := Option.some.inj hx2058
              subst hx2058
              exact ⟨(u1814), G2008, w2113, (Evl.Ex.refl _), rfl⟩
          · rintro σ' H2115 ⟨u2059, G2114, w2061, e2060, rfl⟩
            obtain ⟨s2266, hx2267, h⟩ := bindS h
            refine o_cut (fun σ' H' => ∃ p2268 : Addr, ∃ u2270 : Option V, ∃ u2271 : Option V, ∃ u2272 : Option V, ∃ G' : Hp, Wo G (del H lo) [l] G' H' [(p2268, cL (rP rI rI) s2266.1), (l, cL rI s2266.2.1)] ∧ Evl.Ex G2114 G' ∧ σ' = [some (V.ref l), some (V.int s2266.2.2), some (V.ref p2268), some (V.int x1420.1), u2270, u2271, u1561, u2059, u1813, u1815, u2272] ∧ (del H lo) p2268 = none) ?_ ?_
            · obtain ⟨b2116, hx2276, hx2267⟩ := bindS hx2267
              refine x_if w2061 (et_orP (et_T (e_op rr_eqI (e_var (R := rI) (x := x1420.1) rfl rfl) e_int)) (et_T (e_op rr_eqI (e_var (R := rI) (x := x1420.1) rfl rfl) e_int))) hx2276 ?_ ?_
              · intro hbb2116 H2277 w2278
                subst hbb2116
                have hx2267 := bifT hx2267
                refine x_setO ?_
                refine o_op ?_
                obtain ⟨x2279, hx2280, hx2267⟩ := bindS hx2267
                refine c_i w2278 e_int hx2280 ?_
                intro H2281 w2282
                refine o_call ?_
                refine o_cons ?_
                refine o_var rfl ?_
                refine o_cons ?_
                obtain ⟨x2284, hx2285, hx2267⟩ := bindS hx2267
                refine c_i w2282 e_int hx2285 ?_
                intro H2286 w2287
                refine o_nil ?_
                obtain ⟨x2289, hx2290, hx2267⟩ := bindS hx2267
                refine c_p1 (i := 0) (j := (x2284, ())) w2287 rfl ⟨_, _, rfl, rfl, rfl⟩ hx2290 ?_
                intro u2291 H2292 G2293 w2294 e2295 r2296
                cases r2296
                have w2294 : Wo G (del H lo) [l] G2293 H2292 [(l, cL rI x2289.2), (lo, cL (rP rI rI) s1811.1)] := w2294
                obtain ⟨x2297, hx2298, hx2267⟩ := bindS hx2267
                refine c_rr rr_add w2294 rfl rfl hx2298 ?_
                intro u2299 H2300 G2301 w2302 e2303 r2304
                cases r2304
                obtain ⟨out_2305, hx2306, hx2267⟩ := bindS hx2267
                refine x_setI w2302 (e_cb rc_intB (ea_cons (e_op rr_eqI (e_var (R := rI) (x := x1420.1) rfl rfl) e_int) ea_nil)) hx2306 ?_
                intro H2307 w2308
                obtain ⟨pairs_2309, hx2310, hx2267⟩ := bindS hx2267
                have w2311 := w2308.dropAt 1
                have w2311 : Wo G (del H lo) [l] G2301 H2307 [(l, cL rI x2289.2)] := w2311
                refine x_setL w2311 (el_disp (R := (rP rI rI)) eal_nil) hx2310 ?_
                intro p2314 H2312 G2315 n2316 w2313 e2317
                refine o_forR ?_
                refine o_cons ?_
                refine o_call ?_
                refine o_cons ?_
                refine o_var rfl ?_
                refine o_cons ?_
                obtain ⟨x2318, hx2319, hx2267⟩ := bindS hx2267
                refine c_i w2313 e_int hx2319 ?_
                intro H2320 w2321
                refine o_nil ?_
                obtain ⟨x2323, hx2324, hx2267⟩ := bindS hx2267
                refine c_p1 (i := 1) (j := (x2318, ())) w2321 rfl ⟨_, _, rfl, rfl, rfl⟩ hx2324 ?_
                intro u2325 H2326 G2327 w2328 e2329 r2330
                cases r2330
                have w2328 : Wo G (del H lo) [l] G2327 H2326 [(p2314, cL (rP rI rI) pairs_2309), (l, cL rI x2323.2)] := w2328
                refine o_nil ?_
                obtain ⟨xs2332, hx2333, hx2267⟩ := bindS hx2267
                obtain ⟨t2335, hx2336, hx2267⟩ := bindS hx2267
                refine v_forR w2328 hx2333 (fun i G' H' σ' => ∃ s2337 : ((List (Int × Int)) × (List Int)), ∃ u2338 : Option V, ∃ u2339 : Option V, Wo G (del H lo) [l] G' H' [(p2314, cL (rP rI rI) s2337.1), (l, cL rI s2337.2)] ∧ Evl.Ex G2327 G' ∧ σ' = [some (V.ref l), some (V.int x2297), some (V.ref p2314), some (V.int x1420.1), u2338, u2339, u1561, u2059, u1813, u1815, some (V.int out_2305)] ∧ forS (m__law_spoilt_b2 out_2305 x2297) (xs2332.drop i) s2337 = some t2335) ?_ ?_ ?_
                · exact ⟨(pairs_2309, x2323.2), (u1436), (u1562), w2328, (Evl.Ex.refl _), rfl, hx2336⟩
                · rintro i2347 x2348 σ' G2343 H2346 hx2349 ⟨s2337, u2338, u2339, w2344, e2345, rfl, hm2341⟩
                  obtain ⟨q2342, hb2340, hm2341⟩ := forS_at hx2349 hm2341
                  refine g_name ?_
                  unfold m__law_spoilt_b2 at hb2340
                  refine x_setO ?_
                  refine o_op ?_
                  refine o_call ?_
                  refine o_cons ?_
                  refine o_var rfl ?_
                  refine o_cons ?_
                  obtain ⟨x2351, hx2352, hb2340⟩ := bindS hb2340
                  refine c_i w2344 (e_op rr_add (e_var (R := rI) (x := x2297) rfl rfl) (e_op rr_mul e_int (e_var (R := rI) (x := out_2305) rfl rfl))) (by first | (simp only [be1, bs1, ba1] at hx2352 ⊢; exact hx2352) | exact hx2352) ?_
                  intro H2353 w2354
                  refine o_nil ?_
                  obtain ⟨x2356, hx2357, hb2340⟩ := bindS hb2340
                  refine c_p1 (i := 1) (j := (x2351, ())) w2354 rfl ⟨_, _, rfl, rfl, rfl⟩ hx2357 ?_
                  intro u2358 H2359 G2360 w2361 e2362 r2363
                  cases r2363
                  have w2361 : Wo G (del H lo) [l] G2360 H2359 [(p2314, cL (rP rI rI) s2337.1), (l, cL rI x2356.2)] := w2361
                  obtain ⟨x2365, hx2366, hb2340⟩ := bindS hb2340
                  refine c_i w2361 (e_var (R := rI) (x := out_2305) rfl rfl) hx2366 ?_
                  intro H2367 w2368
                  obtain ⟨x2369, hx2370, hb2340⟩ := bindS hb2340
                  refine c_rr rr_sub w2368 rfl rfl hx2370 ?_
                  intro u2371 H2372 G2373 w2374 e2375 r2376
                  cases r2376
                  refine x_drop ?_
                  refine o_bm (j := 0) w2374 rfl rfl ?_
                  refine o_cons ?_
                  refine o_tup ?_
                  refine o_cons ?_
                  obtain ⟨x2377, hx2378, hb2340⟩ := bindS hb2340
                  refine c_i w2374 (e_var (R := rI) (x := x2369) rfl rfl) hx2378 ?_
                  intro H2379 w2380
                  refine o_cons ?_
                  refine o_op ?_
                  refine o_call ?_
                  refine o_cons ?_
                  refine o_var rfl ?_
                  refine o_cons ?_
                  obtain ⟨x2383, hx2384, hb2340⟩ := bindS hb2340
                  refine c_i w2380 (e_op rr_add (e_var (R := rI) (x := x2297) rfl rfl) (e_op rr_mul e_int (e_var (R := rI) (x := out_2305) rfl rfl))) (by first | (simp only [be1, bs1, ba1] at hx2384 ⊢; exact hx2384) | exact hx2384) ?_
                  intro H2385 w2386
                  refine o_nil ?_
                  obtain ⟨x2388, hx2389, hb2340⟩ := bindS hb2340
                  refine c_p1 (i := 1) (j := (x2383, ())) w2386 rfl ⟨_, _, rfl, rfl, rfl⟩ hx2389 ?_
                  intro u2390 H2391 G2392 w2393 e2394 r2395
                  cases r2395
                  have w2393 : Wo G (del H lo) [l] G2392 H2391 [(p2314, cL (rP rI rI) s2337.1), (l, cL rI x2388.2)] := w2393
                  obtain ⟨x2397, hx2398, hb2340⟩ := bindS hb2340
                  refine c_i w2393 (e_var (R := rI) (x := out_2305) rfl rfl) hx2398 ?_
                  intro H2399 w2400
                  obtain ⟨x2401, hx2402, hb2340⟩ := bindS hb2340
                  refine c_rr rr_sub w2400 rfl rfl hx2402 ?_
                  intro u2403 H2404 G2405 w2406 e2407 r2408
                  cases r2408
                  refine o_nil ?_
                  refine c_pairO (R := rI) (S := rI) (x := x2377) (y := x2401) w2406 rfl rfl ?_
                  intro v2410 H2415 G2411 w2412 e2413 h2414
                  refine o_nil ?_
                  obtain ⟨pairs_2417, hx2418, hb2340⟩ := bindS hb2340
                  obtain ⟨hs2421, q2422⟩ := appM_ok hx2418
                  subst q2422
                  refine c_app (j := 0) w2412 rfl hs2421 h2414 ?_
                  intro H2419 w2420
                  have w2420 : Wo G (del H lo) [l] G2411 H2419 [(p2314, cL (rP rI rI) (s2337.1 ++ [(x2377, x2401)])), (l, cL rI x2388.2)] := w2420
                  refine x_next ?_
                  have hb2340 : ((s2337.1 ++ [(x2377, x2401)]), x2388.2) = q2342 := Option.some.inj hb2340
                  subst hb2340
                  exact ⟨G2411, ((s2337.1 ++ [(x2377, x2401)]), x2388.2), (some (V.int x2348)), (some (V.int x2369)), w2420, (((((e2345.trans e2362).trans e2375).trans e2394).trans e2407).trans e2413), rfl, hm2341⟩
                · rintro σ' G2423 H2426 ⟨s2337, u2338, u2339, w2424, e2425, rfl, hm2341⟩
                  have hm2341 := forS_end hm2341
                  subst hm2341
                  refine x_next ?_
                  have hx2267 : (s2337.1, (s2337.2, x2297)) = s2266 := Option.some.inj hx2267
                  subst hx2267
                  exact ⟨p2314, (u2338), (u2339), (some (V.int out_2305)), G2423, w2424, ((((e2295.trans e2303).trans e2317).trans e2329).trans e2425), rfl, n2316⟩
              · intro hbb2116 H2428 w2429
                subst hbb2116
                have hx2267 := bifF hx2267
                refine x_next ?_
                have w2430 := w2429.perm [1, 0] (by decide) (show ∀ i ∈ [1, 0], i < 2 by decide)
                have w2430 : Wo G (del H lo) [l] G2114 H2428 [(lo, cL (rP rI rI) s1811.1), (l, cL rI s2057.1)] := w2430
                have hx2267 : (s1811.1, (s2057.1, s2057.2)) = s2266 := Option.some.inj hx2267
                subst hx2267
                exact ⟨lo, (u1436), (u1562), (none), G2114, w2430, (Evl.Ex.refl _), rfl, del_same⟩
            · rintro σ' H2432 ⟨p2268, u2270, u2271, u2272, G2431, w2274, e2273, rfl, n2269⟩
              obtain ⟨G2433, w2434, e2435, h2436⟩ := w2274.freezeAt (i := 0) rfl n2269
              have w2434 : Wo G (del H lo) [l] G2433 H2432 [(l, cL rI s2266.2.1)] := w2434
              obtain ⟨a2437, hx2438, h⟩ := bindS h
              obtain ⟨h8, h9⟩ : a2437 = r ∧ s2266.2.1 = k' := Prod.mk.inj (Option.some.inj h)
              subst h8
              subst h9
              exact x_ret w2434 (e_pair (e_var (R := rI) (x := s2266.2.2) rfl rfl) (e_var (R := (rL (rP rI rI))) (x := s2266.1) rfl h2436)) hx2438 (fun v9 H9 G9 w9 e9 r9 => k v9 H9 G9 w9.f (w9.sub1 (i := 0) rfl) r9)
def m__law_closure_b1 (size0 : Int) (pairs0 : List (Int × Int)) (x : Int) (s : List (List Bool)) : Option (List (List Bool)) :=
  (rngM 0 size0 >>= fun xs => mapS (fun y => some ((x == y) || (pairs0.any fun z => decide (z = (x, y))))) xs) >>= fun a => appM s a
def m__law_closure_b4 (mid low high : Int) (rows : List (List Bool)) : Option (List (List Bool)) := andO (ix2 rows low mid) (ix2 rows mid high) >>= fun b => bif b then set2 rows low high true else some rows
def m__law_closure_b3 (size0 mid low : Int) (rows : List (List Bool)) : Option (List (List Bool)) := rngM 0 size0 >>= fun xs => forS (m__law_closure_b4 mid low) xs rows
def m__law_closure_b2 (size0 mid : Int) (rows : List (List Bool)) : Option (List (List Bool)) := rngM 0 size0 >>= fun xs => forS (m__law_closure_b3 size0 mid) xs rows
def m__law_closure (size0 : Int) (pairs0 : List (Int × Int)) : Option (List (List Bool)) := rngM 0 size0 >>= fun xs => forS (m__law_closure_b1 size0 pairs0) xs [] >>= fun rows0 => rngM 0 size0 >>= fun ys => forS (m__law_closure_b2 size0) ys rows0
theorem sc__law_closure : FnScope ["_law_size", "_law_pairs", "_law_rows", "_law_low", "_law_middle", "_law_high"] ["_law_size", "_law_pairs"] (defScope s__law_closure) := ⟨rfl, rfl, rfl, by decide +kernel, rfl, by decide +kernel, by decide +kernel⟩
theorem ok__law_closure (T : Tx K mg) : Fk P w K mg base CX0 3 "_law_closure" ["_law_size", "_law_pairs"] (PF (aC rI (aC (rL (rP rI rI)) aN)) (rL (rL rB)) (fun i => m__law_closure i.1 i.2.1)) := by
  obtain ⟨fd, F⟩ := T.def_ 17 rfl
  have nd := sc__law_closure.nd
  refine fk_mk T.toTx (x := "_law_closure") (T.glo 23 rfl) F (fun _ _ _ _ _ _ us hl => match us, hl with | [_, _], _ => rfl) (F.ok sc__law_closure (fun vs H Q E h => ?_) (fun cdv A outer s H vs Q E hr h => ?_))
  · obtain ⟨G, ⟨size0, pairs0, ⟨⟩⟩, r, e0, ⟨vsize0, _, rfl, hsize0, vpairs0, _, rfl, hpairs0, rfl⟩, h, k⟩ := h
    rfl
  · obtain ⟨G, ⟨size0, pairs0, ⟨⟩⟩, r, e0, ⟨vsize0, _, rfl, hsize0, vpairs0, _, rfl, hpairs0, rfl⟩, h, k⟩ := h
    cases hsize0
    have w0 := Wo.start e0
    have h : m__law_closure size0 pairs0 = some r := h
    unfold m__law_closure at h
    refine ⟨_, PSs.nox (pss_cons (ps_set (i := 2) nd rfl (Or.inl rfl) (pe_lst pa_nil)) (pss_cons (ps_for PassesOwn.never rfl (pi_range1 (by rfl) (fr_range T) (pa_cons (pv 0) pa_nil)) (pg_name (i := 3) nd rfl (Or.inr rfl)) (pss_cons (ps_expr (pe_bm PySem.F.plainAttrs_list PySem.F.slot_list_append PySem.F.type_list_append mt_append (pv 2) (pa_cons (pe_lc (own := [("_law_high", 5)]) (by rfl) nd (pi_range1 (by rfl) (fr_range T) (pa_cons (pv 0) pa_nil)) (blkOk_by (by kernel_rfl)) (fun _ _ _ _ _ => pg_name (i := 5) nd rfl (by first | exact Or.inl rfl | exact Or.inr rfl)) (fun _ _ _ _ _ => pts_nil) (fun _ _ _ _ _ => (pe_or (pe_cmpR op_eq (pv 3) (pv 5) (nomark _)) (pe_one (pe_cmpR (r := rInP false K) (op_inP (neg := false) hr.units) (pe_tup (pa_cons (pv 3) (pa_cons (pv 5) pa_nil))) (pv 1) (by rfl)))))) pa_nil))) pss_nil)) (pss_cons (ps_for PassesOwn.never rfl (pi_range1 (by rfl) (fr_range T) (pa_cons (pv 0) pa_nil)) (pg_name (i := 4) nd rfl (Or.inl rfl)) (pss_cons (ps_for PassesOwn.never rfl (pi_range1 (by rfl) (fr_range T) (pa_cons (pv 0) pa_nil)) (pg_name (i := 3) nd rfl (Or.inr rfl)) (pss_cons (ps_for PassesOwn.never rfl (pi_range1 (by rfl) (fr_range T) (pa_cons (pv 0) pa_nil)) (pg_name (i := 5) nd rfl (Or.inl rfl)) (pss_cons (ps_if (PW.pt (pw_and (pt_val (pe_ix (r := rIxL K) ix_list (pe_ix (r := rIxL K) ix_list (pv 2) (pv 3) (fun _ _ => rfl)) (pv 4) (fun _ _ => rfl))) (pw_and1 (pt_val (pe_ix (r := rIxL K) ix_list (pe_ix (r := rIxL K) ix_list (pv 2) (pv 4) (fun _ _ => rfl)) (pv 5) (fun _ _ => rfl)))))) (pss_cons (ps_asg pe_bl (pg_sub (pe_ix (r := rIxL K) ix_list (pv 2) (pv 3) (fun _ _ => rfl)) (pv 5) set_list)) pss_nil) pss_nil) pss_nil)) pss_nil)) pss_nil)) (pss_cons (ps_ret (pv 2)) pss_nil)))), ?_⟩
    refine x_setL w0 (el_disp (R := rA) eal_nil) rfl ?_
    intro p H1 G1 np w1 e1
    have hp1 := Rep.mono _ e1 hpairs0
    obtain ⟨xs, hxs, h⟩ := bindS h
    obtain ⟨rows0, hr0, h⟩ := bindS h
    obtain ⟨ys, hys, h⟩ := bindS h
    refine x_forR w1 (ea_cons (e_var (R := rI) (x := size0) rfl rfl) ea_nil) rfl hxs (fun i G' H' σ' => ∃ rows : List (List Bool), ∃ as : List Addr, ∃ u1 u2 : Option V, Wo G H [] G' H' (csR rB p as rows) ∧ as.length = rows.length ∧ (∀ a ∈ as, H a = none) ∧ Evl.Ex G1 G' ∧ σ' = [some (V.int size0), some vpairs0, some (V.ref p), u1, none, u2] ∧ forS (m__law_closure_b1 size0 pairs0) (xs.drop i) rows = some rows0) ?_ ?_ ?_
    · intro G' H' w' e'
      exact ⟨[], [], none, none, w', rfl, (fun _ h => nomatch h), e', rfl, hr0⟩
    · rintro i x σ' G2 H2 hx ⟨rows, as, u1, u2, w2, hl, hn, e2, rfl, hm⟩
      obtain ⟨q, hb, hm⟩ := forS_at hx hm
      have hp2 := Rep.mono _ e2 hp1
      refine g_name ?_
      unfold m__law_closure_b1 at hb
      obtain ⟨row, hrow, hb⟩ := bindS hb
      obtain ⟨hs, rfl⟩ := appM_ok hb
      refine x_appR w2 hl (by rw [hl]; exact hs) rfl (el_mapR (el_lcR (j := 5) (ea_cons (e_var (R := rI) (x := size0) rfl rfl) ea_nil) (fun _ => rfl) (fun _ _ _ _ _ _ => et_yes) (fun x34 G35 W36 eG31 eW32 eX33 => (e_orP (e_op rr_eqI (e_var (R := rI) (x := x) rfl rfl) (e_var (R := rI) (x := x34) rfl rfl)) (e_op (rr_inD (neg := false) (dtP dtI dtI) (by decide)) (e_pair (e_var (R := rI) (x := x) rfl rfl) (e_var (R := rI) (x := x34) rfl rfl)) (e_var (R := (rL (rP rI rI))) (x := pairs0) rfl (Rep.mono _ eG31 hp2))))))) hrow ?_
      intro a H3 G3 na w3 e3
      refine x_next ?_
      exact ⟨G3, rows ++ [row], as ++ [a], some (V.int x), u2, w3, by simp [hl], (fun b hb => by
        rcases List.mem_append.mp hb with hb | hb
        · exact hn b hb
        · rw [List.mem_singleton.mp hb]; exact na), e2.trans e3, rfl, hm⟩
    · rintro σ' G2 H2 ⟨rows, as, u1, u2, w2, hl, hn, e2, rfl, hm⟩
      have hm := forS_end hm
      subst hm
      have hp2 := Rep.mono _ e2 hp1
      refine x_forR w2 (ea_cons (e_var (R := rI) (x := size0) rfl rfl) ea_nil) rfl hys (fun i G' H' σ' => ∃ rows : List (List Bool), ∃ u1 u2 u3 : Option V, Wo G H [] G' H' (csR rB p as rows) ∧ as.length = rows.length ∧ Evl.Ex G2 G' ∧ σ' = [some (V.int size0), some vpairs0, some (V.ref p), u1, u3, u2] ∧ forS (m__law_closure_b2 size0) (ys.drop i) rows = some r) ?_ ?_ ?_
      · intro G' H' w' e'
        exact ⟨rows, u1, u2, none, w', hl, e', rfl, h⟩
      · rintro i x σ' G3 H3 hx ⟨rows, u1, u2, u3, w3, hl, e3, rfl, hm⟩
        obtain ⟨q, hb, hm⟩ := forS_at hx hm
        refine g_name ?_
        unfold m__law_closure_b2 at hb
        obtain ⟨zs, hzs, hb⟩ := bindS hb
        refine x_forR w3 (ea_cons (e_var (R := rI) (x := size0) rfl rfl) ea_nil) rfl hzs (fun i G' H' σ' => ∃ rows : List (List Bool), ∃ u1 u2 : Option V, Wo G H [] G' H' (csR rB p as rows) ∧ as.length = rows.length ∧ Evl.Ex G3 G' ∧ σ' = [some (V.int size0), some vpairs0, some (V.ref p), u1, some (V.int x), u2] ∧ forS (m__law_closure_b3 size0 x) (zs.drop i) rows = some q) ?_ ?_ ?_
        · intro G' H' w' e'
          exact ⟨rows, u1, u2, w', hl, e', rfl, hb⟩
        · rintro j y σ' G4 H4 hy ⟨rows, u1, u2, w4, hl, e4, rfl, hm2⟩
          obtain ⟨q2, hb2, hm2⟩ := forS_at hy hm2
          refine g_name ?_
          unfold m__law_closure_b3 at hb2
          obtain ⟨vs, hvs, hb2⟩ := bindS hb2
          refine x_forR w4 (ea_cons (e_var (R := rI) (x := size0) rfl rfl) ea_nil) rfl hvs (fun i G' H' σ' => ∃ rows : List (List Bool), ∃ u2 : Option V, Wo G H [] G' H' (csR rB p as rows) ∧ as.length = rows.length ∧ Evl.Ex G4 G' ∧ σ' = [some (V.int size0), some vpairs0, some (V.ref p), some (V.int y), some (V.int x), u2] ∧ forS (m__law_closure_b4 x y) (vs.drop i) rows = some q2) ?_ ?_ ?_
          · intro G' H' w' e'
            exact ⟨rows, u2, w', hl, e', rfl, hb2⟩
          · rintro l z σ' G5 H5 hz ⟨rows, u2, w5, hl, e5, rfl, hm3⟩
            obtain ⟨q3, hb3, hm3⟩ := forS_at hz hm3
            refine g_name ?_
            unfold m__law_closure_b4 at hb3
            obtain ⟨b, hbb, hb3⟩ := bindS hb3
            refine x_if w5 (et_and (et_B (e_op rr_ixL (e_op rr_ixL (e_var (R := rL (rL rB)) (x := rows) rfl (csR_r w5 hl)) (e_var (R := rI) (x := y) rfl rfl)) (e_var (R := rI) (x := x) rfl rfl))) (et_B (e_op rr_ixL (e_op rr_ixL (e_var (R := rL (rL rB)) (x := rows) rfl (csR_r w5 hl)) (e_var (R := rI) (x := x) rfl rfl)) (e_var (R := rI) (x := z) rfl rfl)))) hbb ?_ ?_
            · intro hb H6 w6
              subst hb
              have hb3 := bifT hb3
              refine x_set2 w6 hl rfl e_bl rfl (e_var (R := rI) (x := y) rfl rfl) rfl (e_var (R := rI) (x := z) rfl rfl) rfl hb3 ?_
              intro H7 G7 w7 hl7 e7
              refine x_next ?_
              refine x_next ?_
              exact ⟨G7, q3, some (V.int z), w7, by rw [hl7]; exact hl, e5.trans e7, rfl, hm3⟩
            · intro hb H6 w6
              subst hb
              have hb3 := bifF hb3
              refine x_next ?_
              refine x_next ?_
              have hb3 : rows = q3 := Option.some.inj hb3
              subst hb3
              exact ⟨G5, rows, some (V.int z), w6, hl, e5, rfl, hm3⟩
          · rintro σ' G5 H5 ⟨rows, u2, w5, hl, e5, rfl, hm3⟩
            have hm3 := forS_end hm3
            subst hm3
            refine x_next ?_
            exact ⟨G5, rows, some (V.int y), u2, w5, hl, e4.trans e5, rfl, hm2⟩
        · rintro σ' G4 H4 ⟨rows, u1, u2, w4, hl, e4, rfl, hm2⟩
          have hm2 := forS_end hm2
          subst hm2
          refine x_next ?_
          exact ⟨G4, rows, u1, u2, some (V.int x), w4, hl, e3.trans e4, rfl, hm⟩
      · rintro σ' G3 H3 ⟨rows, u1, u2, u3, w3, hl, e3, rfl, hm⟩
        have hm := forS_end hm
        subst hm
        obtain ⟨G4, w4, e4, h4⟩ := w3.frzR hl np hn
        exact x_ret w4 (e_var (R := rL (rL rB)) (x := rows) rfl h4) rfl (fun v9 H9 G9 w9 e9 r9 => k v9 H9 G9 w9.upE r9)
def m__law_first_lack_b2 (rows0 : (List (List Bool))) (x2460 : Int) (x2485 : Int) (s2472 : Unit) : Option (Stp Unit (Option (Int × Int))) :=
  ((rngM 0 (rows0.length : Int) >>= fun xs2496 => lcS (fun x2491 => (andO ((atI rows0 x2460 >>= fun t2494 => atI t2494 x2491)) ((atI rows0 x2485 >>= fun t2495 => atI t2495 x2491)))) (fun x2491 => some x2491) xs2496) >>= fun uppers_2497 => (((mapS (fun x2509 => (mapS (fun x2517 => (atI rows0 x2509 >>= fun t2522 => atI t2522 x2517)) uppers_2497 >>= fun t2524 => some (t2524.all id))) uppers_2497 >>= fun t2526 => some (t2526.any id)) >>= fun t2527 => some (!t2527)) >>= fun b2528 => bif b2528 then (some (some (x2460, x2485)) >>= fun a2532 => some (Stp.rt a2532)) else some (Stp.nx ())))
def m__law_first_lack_b1 (rows0 : (List (List Bool))) (x2460 : Int) (s2446 : Unit) : Option (Stp Unit (Option (Int × Int))) :=
  (some (x2460 + (1 : Int)) >>= fun n2463 => some (rows0.length : Int) >>= fun n2465 => rngM n2463 n2465 >>= fun xs2467 => forL (m__law_first_lack_b2 rows0 x2460) xs2467 () >>= Sum.elim (fun s2472 => some (Stp.nx ())) (fun r => some (Stp.rt r)))
def m__law_first_lack (rows0 : (List (List Bool))) : Option (Option (Int × Int)) :=
  (some (rows0.length : Int) >>= fun n2439 => rngM 0 n2439 >>= fun xs2441 => forL (m__law_first_lack_b1 rows0) xs2441 () >>= Sum.elim (fun s2446 => (some (none : (Option (Int × Int))) >>= fun a2548 => some a2548)) (fun r => some r))
theorem sc__law_first_lack : FnScope ["_law_rows", "_law_first", "_law_second", "_law_uppers", "_law_e", "_law_other"] ["_law_rows"] (defScope s__law_first_lack) := ⟨rfl, rfl, rfl, by decide +kernel, rfl, by decide +kernel, by decide +kernel⟩
theorem ok__law_first_lack (T : Tx K mg) : Fk P w K mg base CX0 1 "_law_first_lack" ["_law_rows"] (PF (aC (rL (rL rB)) aN) (rO (rP rI rI)) (fun i => m__law_first_lack i.1)) := by
  obtain ⟨fd, F⟩ := T.def_ 18 rfl
  have nd := sc__law_first_lack.nd
  refine fk_mk T.toTx (x := "_law_first_lack") (T.glo 24 rfl) F (fun _ _ _ _ _ _ us hl => match us, hl with | [_], _ => rfl) (F.ok sc__law_first_lack (fun vs H Q E h => ?_) (fun cdv A outer s H vs Q E hr h => ?_))
  · obtain ⟨G, ⟨rows0, ⟨⟩⟩, r, e0, ⟨vrows0, _, rfl, hrows0, rfl⟩, h, k⟩ := h
    rfl
  · obtain ⟨G, ⟨rows0, ⟨⟩⟩, r, e0, ⟨vrows0, _, rfl, hrows0, rfl⟩, h, k⟩ := h
    have w0 := Wo.start e0
    have h : m__law_first_lack rows0 = some r := h
    unfold m__law_first_lack at h
    refine ⟨_, PSs.nox (pss_cons (ps_for PassesOwn.never rfl (pi_range1 (by rfl) (fr_range T) (pa_cons (pe_callB (r := rLn K) call_len_seq (by rfl) (fr_len T) (by decide +kernel) (pa_cons (pv 0) pa_nil)) pa_nil)) (pg_name (i := 1) nd rfl (Or.inr rfl)) (pss_cons (ps_for PassesOwn.never rfl (pi_range2 (by rfl) (fr_range T) (pa_cons (pe_op op_add (pv 1) pe_int) (pa_cons (pe_callB (r := rLn K) call_len_seq (by rfl) (fr_len T) (by decide +kernel) (pa_cons (pv 0) pa_nil)) pa_nil))) (pg_name (i := 2) nd rfl (Or.inr rfl)) (pss_cons (ps_set (i := 3) nd rfl (Or.inr rfl) (pe_lc (own := [("_law_e", 4)]) (by rfl) nd (pi_range1 (by rfl) (fr_range T) (pa_cons (pe_callB (r := rLn K) call_len_seq (by rfl) (fr_len T) (by decide +kernel) (pa_cons (pv 0) pa_nil)) pa_nil)) (blkOk_by (by kernel_rfl)) (fun _ _ _ _ _ => pg_name (i := 4) nd rfl (by first | exact Or.inl rfl | exact Or.inr rfl)) (fun _ _ _ _ _ => pts_one (PW.pt (pw_and (pt_val (pe_ix (r := rIxL K) ix_list (pe_ix (r := rIxL K) ix_list (pv 0) (pv 1) (fun _ _ => rfl)) (pv 4) (fun _ _ => rfl))) (pw_and1 (pt_val (pe_ix (r := rIxL K) ix_list (pe_ix (r := rIxL K) ix_list (pv 0) (pv 2) (fun _ _ => rfl)) (pv 4) (fun _ _ => rfl))))))) (fun _ _ _ _ _ => (pv 4)))) (pss_cons (ps_if (pt_not (pt_val (pe_callB (r := rAny K) (cr_any rfl) (by rfl) (fr_any T) (by decide +kernel) (pa_cons (pe_lc (own := [("_law_e", 4)]) (by rfl) nd (show L2.PI _ _ _ (iList K _) from pi_list (pv 3)) (blkOk_by (by kernel_rfl)) (fun _ _ _ _ _ => pg_name (i := 4) nd rfl (by first | exact Or.inl rfl | exact Or.inr rfl)) (fun _ _ _ _ _ => pts_nil) (fun _ _ _ _ _ => (pe_callB (r := rAll K) (cr_all rfl) (by rfl) (fr_all T) (by decide +kernel) (pa_cons (pe_lc (own := [("_law_other", 5)]) (by rfl) nd (show L2.PI _ _ _ (iList K _) from pi_list (pv 3)) (blkOk_by (by kernel_rfl)) (fun _ _ _ _ _ => pg_name (i := 5) nd rfl (by first | exact Or.inl rfl | exact Or.inr rfl)) (fun _ _ _ _ _ => pts_nil) (fun _ _ _ _ _ => (pe_ix (r := rIxL K) ix_list (pe_ix (r := rIxL K) ix_list (pv 0) (pv 4) (fun _ _ => rfl)) (pv 5) (fun _ _ => rfl)))) pa_nil)))) pa_nil)))) (pss_cons (ps_ret (pe_tup (pa_cons (pv 1) (pa_cons (pv 2) pa_nil)))) pss_nil) pss_nil) pss_nil))) pss_nil)) (pss_cons (ps_ret pe_non) pss_nil)), ?_⟩
    obtain ⟨n2439, hx2440, h⟩ := bindS h
    obtain ⟨xs2441, hx2442, h⟩ := bindS h
    obtain ⟨t2444, hx2445, h⟩ := bindS h
    refine x_forR w0 (ea_cons (Sim.E.is (e_cb rc_lenL (ea_cons (e_var (R := (rL (rL rB))) (x := rows0) rfl hrows0) ea_nil)) hx2440) ea_nil) rfl hx2442 (fun i G' H' σ' => ∃ s2446 : Unit, ∃ u2447 : Option V, ∃ u2448 : Option V, ∃ u2449 : Option V, ∃ u2450 : Option V, ∃ u2451 : Option V, Wo G H [] G' H' [] ∧ Evl.Ex G G' ∧ σ' = [some vrows0, u2448, u2450, u2451, u2447, u2449] ∧ forL (m__law_first_lack_b1 rows0) (xs2441.drop i) s2446 = some t2444) ?_ ?_ ?_
    · intro G' H' w' e'
      exact ⟨(), (none), (none), (none), (none), (none), w', e', rfl, hx2445⟩
    · rintro i2459 x2460 σ' G2455 H2458 hx2461 ⟨s2446, u2447, u2448, u2449, u2450, u2451, w2456, e2457, rfl, hm2453⟩
      obtain ⟨q2454, hb2452, hm2453⟩ := forL_at hx2461 hm2453
      have h2462 := Rep.mono _ e2457 hrows0
      refine g_name ?_
      unfold m__law_first_lack_b1 at hb2452
      obtain ⟨n2463, hx2464, hb2452⟩ := bindS hb2452
      obtain ⟨n2465, hx2466, hb2452⟩ := bindS hb2452
      obtain ⟨xs2467, hx2468, hb2452⟩ := bindS hb2452
      obtain ⟨t2470, hx2471, hb2452⟩ := bindS hb2452
      refine x_forR2 w2456 (ea_cons (Sim.E.is (e_op rr_add (e_var (R := rI) (x := x2460) rfl rfl) e_int) hx2464) (ea_cons (Sim.E.is (e_cb rc_lenL (ea_cons (e_var (R := (rL (rL rB))) (x := rows0) rfl h2462) ea_nil)) hx2466) ea_nil)) rfl hx2468 (fun i G' H' σ' => ∃ s2472 : Unit, ∃ u2473 : Option V, ∃ u2474 : Option V, ∃ u2475 : Option V, ∃ u2476 : Option V, Wo G H [] G' H' [] ∧ Evl.Ex G2455 G' ∧ σ' = [some vrows0, some (V.int x2460), u2475, u2476, u2473, u2474] ∧ forL (m__law_first_lack_b2 rows0 x2460) (xs2467.drop i) s2472 = some t2470) ?_ ?_ ?_
      · intro G' H' w' e'
        exact ⟨(), (u2447), (u2449), (u2450), (u2451), w', e', rfl, hx2471⟩
      · rintro i2484 x2485 σ' G2480 H2483 hx2486 ⟨s2472, u2473, u2474, u2475, u2476, w2481, e2482, rfl, hm2478⟩
        obtain ⟨q2479, hb2477, hm2478⟩ := forL_at hx2486 hm2478
        have h2487 := Rep.mono _ e2482 h2462
        refine g_name ?_
        unfold m__law_first_lack_b2 at hb2477
        obtain ⟨uppers_2497, hx2498, hb2477⟩ := bindS hb2477
        refine x_set w2481 (EL.e (el_lcR (j := 4) (ea_cons (e_cb rc_lenL (ea_cons (e_var (R := (rL (rL rB))) (x := rows0) rfl h2487) ea_nil)) ea_nil) (fun _ => rfl) (fun x2491 G2492 W2493 eG2488 eW2489 eX2490 => (et_and (et_B (e_op rr_ixL (e_op rr_ixL (e_var (R := (rL (rL rB))) (x := rows0) rfl (Rep.mono _ eX2490 (Rep.mono _ eG2488 h2487))) (e_var (R := rI) (x := x2460) rfl rfl)) (e_var (R := rI) (x := x2491) rfl rfl))) (et_B (e_op rr_ixL (e_op rr_ixL (e_var (R := (rL (rL rB))) (x := rows0) rfl (Rep.mono _ eX2490 (Rep.mono _ eG2488 h2487))) (e_var (R := rI) (x := x2485) rfl rfl)) (e_var (R := rI) (x := x2491) rfl rfl))))) (fun x2491 G2492 W2493 eG2488 eW2489 eX2490 => (e_var (R := rI) (x := x2491) rfl rfl)))) (by first | (simp only [be1, bs1, ba1] at hx2498 ⊢; exact hx2498) | exact hx2498) ?_
        intro v2501 H2499 G2502 w2500 e2503 h2504
        have h2505 := Rep.mono _ e2503 h2487
        obtain ⟨b2528, hx2529, hb2477⟩ := bindS hb2477
        refine x_if w2500 (et_not (et_B (e_cb rc_any (ea_cons (EL.e (el_map (el_lcL (j := 4) (e_var (R := (rL rI)) (x := uppers_2497) rfl (Rep.mono _ w2500.ex h2504)) (fun _ => rfl) (fun _ _ _ _ _ _ _ _ => et_yes) (fun x2509 v2512 G2510 W2511 eG2506 eW2507 eX2508 h2513 => (e_cb rc_all (ea_cons (EL.e (el_map (el_lcL (j := 5) (e_var (R := (rL rI)) (x := uppers_2497) rfl (Rep.mono _ eG2506 (Rep.mono _ w2500.ex h2504))) (fun _ => rfl) (fun _ _ _ _ _ _ _ _ => et_yes) (fun x2517 v2520 G2518 W2519 eG2514 eW2515 eX2516 h2521 => (e_op rr_ixL (e_op rr_ixL (e_var (R := (rL (rL rB))) (x := rows0) rfl (Rep.mono _ eG2514 (Rep.mono _ eG2506 (Rep.mono _ w2500.ex h2505)))) (e_var (R := rI) (x := x2509) rfl (Rep.mono _ eG2514 h2513))) (e_var (R := rI) (x := x2517) rfl h2521)))))) ea_nil)))))) ea_nil)))) (by first | (simp only [be1, bs1, ba1] at hx2529 ⊢; exact hx2529) | exact hx2529) ?_ ?_
        · intro hbb2528 H2530 w2531
          subst hbb2528
          have hb2477 := bifT hb2477
          obtain ⟨a2532, hx2533, hb2477⟩ := bindS hb2477
          have hb2477 : some (Stp.rt a2532) = some q2479 := hb2477
          cases hb2477
          have hm2478 : some (Sum.inr a2532) = some t2470 := hm2478
          cases hm2478
          have hb2452 : some (Stp.rt a2532) = some q2454 := hb2452
          cases hb2452
          have hm2453 : some (Sum.inr a2532) = some t2444 := hm2453
          cases hm2453
          have h : a2532 = r := Option.some.inj h
          subst h
          exact x_ret w2531 (e_some (e_pair (e_var (R := rI) (x := x2460) rfl rfl) (e_var (R := rI) (x := x2485) rfl rfl))) hx2533 (fun v9 H9 G9 w9 e9 r9 => k v9 H9 G9 w9.upE r9)
        · intro hbb2528 H2534 w2535
          subst hbb2528
          have hb2477 := bifF hb2477
          refine x_next ?_
          refine x_next ?_
          have hb2477 : Stp.nx () = q2479 := Option.some.inj hb2477
          subst hb2477
          exact ⟨G2502, (), (u2473), (u2474), (some (V.int x2485)), (some v2501), w2535, (e2482.trans e2503), rfl, hm2478⟩
      · rintro σ' G2536 H2539 ⟨s2472, u2473, u2474, u2475, u2476, w2537, e2538, rfl, hm2478⟩
        have hm2478 := forL_end hm2478
        subst hm2478
        have hb2452 := elimL hb2452
        have h2541 := Rep.mono _ e2538 h2462
        refine x_next ?_
        have hb2452 : Stp.nx () = q2454 := Option.some.inj hb2452
        subst hb2452
        exact ⟨G2536, (), (u2473), (some (V.int x2460)), (u2474), (u2475), (u2476), w2537, (e2457.trans e2538), rfl, hm2453⟩
    · rintro σ' G2542 H2545 ⟨s2446, u2447, u2448, u2449, u2450, u2451, w2543, e2544, rfl, hm2453⟩
      have hm2453 := forL_end hm2453
      subst hm2453
      have h := elimL h
      have h2547 := Rep.mono _ e2544 hrows0
      obtain ⟨a2548, hx2549, h⟩ := bindS h
      have h : a2548 = r := Option.some.inj h
      subst h
      exact x_ret w2543 (e_none (R := (rP rI rI))) hx2549 (fun v9 H9 G9 w9 e9 r9 => k v9 H9 G9 w9.upE r9)
def m__law_first_error_b2 (size0 : Int) (x2597 : Int) (s2587 : Unit) : Option (Stp Unit PyData) :=
  (some ((decide (x2597 < (0 : Int))) || (decide (size0 ≤ x2597))) >>= fun b2606 => bif b2606 then (some (PyData.tuple [PyData.str (("element" : Str), x2597).1, PyData.int (("element" : Str), x2597).2]) >>= fun a2610 => some (Stp.rt a2610)) else some (Stp.nx ()))
def m__law_first_error_b1 (size0 : Int) (x2574 : (Int × Int)) (s2563 : Unit) : Option (Stp Unit PyData) :=
  (some ([x2574.1, x2574.2]) >>= fun xs2582 => forL (m__law_first_error_b2 size0) xs2582 () >>= Sum.elim (fun s2587 => some (Stp.nx ())) (fun r => some (Stp.rt r)))
def m__law_first_error_b4 (rows_2629 : (List (List Bool))) (x2656 : Int) (x2679 : Int) (s2669 : Unit) : Option (Stp Unit PyData) :=
  ((andO ((atI rows_2629 x2656 >>= fun t2683 => atI t2683 x2679)) ((atI rows_2629 x2679 >>= fun t2684 => atI t2684 x2656))) >>= fun b2685 => bif b2685 then ((toDM (PyData.tuple ([(PyData.str ("ring" : Str)), (PyData.int x2656), (PyData.int x2679)]))) >>= fun a2689 => some (Stp.rt a2689)) else some (Stp.nx ()))
def m__law_first_error_b3 (size0 : Int) (rows_2629 : (List (List Bool))) (x2656 : Int) (s2645 : Unit) : Option (Stp Unit PyData) :=
  (some (x2656 + (1 : Int)) >>= fun n2660 => some size0 >>= fun n2662 => rngM n2660 n2662 >>= fun xs2664 => forL (m__law_first_error_b4 rows_2629 x2656) xs2664 () >>= Sum.elim (fun s2669 => some (Stp.nx ())) (fun r => some (Stp.rt r)))
def m__law_first_error_b5 (size0 : Int) (rows_2629 : (List (List Bool))) (x2763 : Int) (s2752 : (List (List Bool))) : Option (List (List Bool)) :=
  ((rngM 0 size0 >>= fun xs2775 => mapS (fun x2771 => (atI rows_2629 x2771 >>= fun t2774 => atI t2774 x2763)) xs2775) >>= fun a2776 => appM s2752 a2776 >>= fun turned_2777 => some (turned_2777))
def m__law_first_error (size0 : Int) (pairs0 : (List (Int × Int))) : Option PyData :=
  (some ((decide (size0 < (1 : Int))) || (decide ((12 : Int) < size0))) >>= fun b2550 => bif b2550 then (some (PyData.tuple [PyData.str (("size" : Str), size0).1, PyData.int (("size" : Str), size0).2]) >>= fun a2554 => some a2554) else (some pairs0 >>= fun xs2558 => forL (m__law_first_error_b1 size0) xs2558 () >>= Sum.elim (fun s2563 => (m__law_closure size0 pairs0 >>= fun rows_2629 => (some size0 >>= fun n2638 => rngM 0 n2638 >>= fun xs2640 => forL (m__law_first_error_b3 size0 rows_2629) xs2640 () >>= Sum.elim (fun s2645 => (m__law_first_lack rows_2629 >>= fun lack_2707 => (some lack_2707.isSome >>= fun b2717 => bif b2717 then (((((lack_2707 >>= fun t2723 => some t2723.1) >>= fun t2725 => some (PyData.int t2725)) >>= fun t2727 => (((lack_2707 >>= fun t2724 => some t2724.2) >>= fun t2726 => some (PyData.int t2726)) >>= fun t2728 => some ([(PyData.str ("join" : Str)), t2727, t2728]))) >>= fun t2729 => (toDM (PyData.tuple t2729))) >>= fun a2730 => some a2730) else (some ([]) >>= fun turned_2734 => (some size0 >>= fun n2745 => rngM 0 n2745 >>= fun xs2747 => forS (m__law_first_error_b5 size0 rows_2629) xs2747 turned_2734 >>= fun s2752 => (m__law_first_lack s2752 >>= fun lack_2803 => (some lack_2803.isSome >>= fun b2815 => bif b2815 then (((((lack_2803 >>= fun t2821 => some t2821.1) >>= fun t2823 => some (PyData.int t2823)) >>= fun t2825 => (((lack_2803 >>= fun t2822 => some t2822.2) >>= fun t2824 => some (PyData.int t2824)) >>= fun t2826 => some ([(PyData.str ("meet" : Str)), t2825, t2826]))) >>= fun t2827 => (toDM (PyData.tuple t2827))) >>= fun a2828 => some a2828) else (some (PyData.tuple [PyData.str (("fine" : Str), size0).1, PyData.int (("fine" : Str), size0).2]) >>= fun a2832 => some a2832)))))))) (fun r => some r)))) (fun r => some r)))
theorem sc__law_first_error : FnScope ["_law_size", "_law_pairs", "_law_pair", "_law_rows", "_law_first", "_law_lack", "_law_turned", "_law_low", "_law_value", "_law_second", "_law_high"] ["_law_size", "_law_pairs"] (defScope s__law_first_error) := ⟨rfl, rfl, rfl, by decide +kernel, rfl, by decide +kernel, by decide +kernel⟩
theorem ok__law_first_error (T : Tx K mg) : Fk P w K mg base CX0 4 "_law_first_error" ["_law_size", "_law_pairs"] (PF (aC rI (aC (rL (rP rI rI)) aN)) (rD K) (fun i => m__law_first_error i.1 i.2.1)) := by
  obtain ⟨fd__law_closure, G__law_closure, b__law_closure, k__law_closure, g__law_closure⟩ := ok__law_closure (w := w) (base := base) T
  obtain ⟨fd__law_first_lack, G__law_first_lack, b__law_first_lack, k__law_first_lack, g__law_first_lack⟩ := ok__law_first_lack (w := w) (base := base) T
  obtain ⟨fd, F⟩ := T.def_ 19 rfl
  have nd := sc__law_first_error.nd
  refine fk_mk T.toTx (x := "_law_first_error") (T.glo 25 rfl) F (fun _ _ _ _ _ _ us hl => match us, hl with | [_, _], _ => rfl) (F.ok sc__law_first_error (fun vs H Q E h => ?_) (fun cdv A outer s H vs Q E hr h => ?_))
  · obtain ⟨G, ⟨size0, pairs0, ⟨⟩⟩, r, e0, ⟨vsize0, _, rfl, hsize0, vpairs0, _, rfl, hpairs0, rfl⟩, h, k⟩ := h
    rfl
  · obtain ⟨G, ⟨size0, pairs0, ⟨⟩⟩, r, e0, ⟨vsize0, _, rfl, hsize0, vpairs0, _, rfl, hpairs0, rfl⟩, h, k⟩ := h
    cases hsize0
    have w0 := Wo.start e0
    have h : m__law_first_error size0 pairs0 = some r := h
    unfold m__law_first_error at h
    refine ⟨_, PSs.nox (pss_cons (ps_if (PW.pt (pw_or (pt_cmpR op_lt (pv 0) pe_int (nomark _)) (pw_or1 (pt_cmpR op_gt (pv 0) pe_int (nomark _))))) (pss_cons (ps_ret (pe_tup (pa_cons pe_str (pa_cons (pv 0) pa_nil)))) pss_nil) pss_nil) (pss_cons (ps_for PassesOwn.never rfl (pi_list (pv 1)) (pg_name (i := 2) nd rfl (Or.inl rfl)) (pss_cons (ps_for PassesOwn.never rfl (pi_tup (pv 2)) (pg_name (i := 8) nd rfl (Or.inl rfl)) (pss_cons (ps_if (PW.pt (pw_or (pt_cmpR op_lt (pv 8) pe_int (nomark _)) (pw_or1 (pt_cmpR op_ge (pv 8) (pv 0) (nomark _))))) (pss_cons (ps_ret (pe_tup (pa_cons pe_str (pa_cons (pv 8) pa_nil)))) pss_nil) pss_nil) pss_nil)) pss_nil)) (pss_cons (ps_set (i := 3) nd rfl (Or.inr rfl) (pe_call G__law_closure (hr.mono (by decide)) rfl g__law_closure k__law_closure b__law_closure .nil pass0 (pa_cons (pv 0) (pa_cons (pv 1) pa_nil)))) (pss_cons (ps_for PassesOwn.never rfl (pi_range1 (by rfl) (fr_range T) (pa_cons (pv 0) pa_nil)) (pg_name (i := 4) nd rfl (Or.inl rfl)) (pss_cons (ps_for PassesOwn.never rfl (pi_range2 (by rfl) (fr_range T) (pa_cons (pe_op op_add (pv 4) pe_int) (pa_cons (pv 0) pa_nil))) (pg_name (i := 9) nd rfl (Or.inl rfl)) (pss_cons (ps_if (PW.pt (pw_and (pt_val (pe_ix (r := rIxL K) ix_list (pe_ix (r := rIxL K) ix_list (pv 3) (pv 4) (fun _ _ => rfl)) (pv 9) (fun _ _ => rfl))) (pw_and1 (pt_val (pe_ix (r := rIxL K) ix_list (pe_ix (r := rIxL K) ix_list (pv 3) (pv 9) (fun _ _ => rfl)) (pv 4) (fun _ _ => rfl)))))) (pss_cons (ps_ret (pe_tup (pa_cons pe_str (pa_cons (pv 4) (pa_cons (pv 9) pa_nil))))) pss_nil) pss_nil) pss_nil)) pss_nil)) (pss_cons (ps_set (i := 5) nd rfl (Or.inl rfl) (pe_call G__law_first_lack (hr.mono (by decide)) rfl g__law_first_lack k__law_first_lack b__law_first_lack .nil pass0 (pa_cons (pv 3) pa_nil))) (pss_cons (ps_if (pt_cmpR op_notN (pv 5) pe_non (nomark _)) (pss_cons (ps_ret (pe_tup (pa_cons pe_str (pa_cons (pe_ix (r := rIxT K) ix_tup (pv 5) pe_int (fun _ _ => rfl)) (pa_cons (pe_ix (r := rIxT K) ix_tup (pv 5) pe_int (fun _ _ => rfl)) pa_nil))))) pss_nil) pss_nil) (pss_cons (ps_set (i := 6) nd rfl (Or.inl rfl) (pe_lst pa_nil)) (pss_cons (ps_for PassesOwn.never rfl (pi_range1 (by rfl) (fr_range T) (pa_cons (pv 0) pa_nil)) (pg_name (i := 7) nd rfl (Or.inr rfl)) (pss_cons (ps_expr (pe_bm PySem.F.plainAttrs_list PySem.F.slot_list_append PySem.F.type_list_append mt_append (pv 6) (pa_cons (pe_lc (own := [("_law_high", 10)]) (by rfl) nd (pi_range1 (by rfl) (fr_range T) (pa_cons (pv 0) pa_nil)) (blkOk_by (by kernel_rfl)) (fun _ _ _ _ _ => pg_name (i := 10) nd rfl (by first | exact Or.inl rfl | exact Or.inr rfl)) (fun _ _ _ _ _ => pts_nil) (fun _ _ _ _ _ => (pe_ix (r := rIxL K) ix_list (pe_ix (r := rIxL K) ix_list (pv 3) (pv 10) (fun _ _ => rfl)) (pv 7) (fun _ _ => rfl)))) pa_nil))) pss_nil)) (pss_cons (ps_set (i := 5) nd rfl (Or.inl rfl) (pe_call G__law_first_lack (hr.mono (by decide)) rfl g__law_first_lack k__law_first_lack b__law_first_lack .nil pass0 (pa_cons (pv 6) pa_nil))) (pss_cons (ps_if (pt_cmpR op_notN (pv 5) pe_non (nomark _)) (pss_cons (ps_ret (pe_tup (pa_cons pe_str (pa_cons (pe_ix (r := rIxT K) ix_tup (pv 5) pe_int (fun _ _ => rfl)) (pa_cons (pe_ix (r := rIxT K) ix_tup (pv 5) pe_int (fun _ _ => rfl)) pa_nil))))) pss_nil) pss_nil) (pss_cons (ps_ret (pe_tup (pa_cons pe_str (pa_cons (pv 0) pa_nil)))) pss_nil))))))))))), ?_⟩
    obtain ⟨b2550, hx2551, h⟩ := bindS h
    refine x_if w0 (et_orP (et_T (e_op rr_lt (e_var (R := rI) (x := size0) rfl rfl) e_int)) (et_T (e_op rr_gt (e_var (R := rI) (x := size0) rfl rfl) e_int))) hx2551 ?_ ?_
    · intro hbb2550 H2552 w2553
      subst hbb2550
      have h := bifT h
      obtain ⟨a2554, hx2555, h⟩ := bindS h
      have h : a2554 = r := Option.some.inj h
      subst h
      exact x_ret w2553 (e_toD (K := K) (e_pair e_str (e_var (R := rI) (x := size0) rfl rfl)) (dtP dtS dtI) (by decide)) hx2555 (fun v9 H9 G9 w9 e9 r9 => k v9 H9 G9 w9.upE r9)
    · intro hbb2550 H2556 w2557
      subst hbb2550
      have h := bifF h
      refine x_next ?_
      obtain ⟨xs2558, hx2559, h⟩ := bindS h
      obtain ⟨t2561, hx2562, h⟩ := bindS h
      refine x_forL w2557 (e_var (R := (rL (rP rI rI))) (x := pairs0) rfl hpairs0) hx2559 (fun i G' H' σ' => ∃ s2563 : Unit, ∃ u2564 : Option V, ∃ u2565 : Option V, Wo G H [] G' H' [] ∧ Evl.Ex G G' ∧ σ' = [some (V.int size0), some vpairs0, u2564, none, none, none, none, none, u2565, none, none] ∧ forL (m__law_first_error_b1 size0) (xs2558.drop i) s2563 = some t2561) (fun _ _ _ _ ⟨_, _, _, w, _⟩ => w.ex) ?_ ?_ ?_
      · intro G' H' w' e'
        exact ⟨(), (none), (none), w', e', rfl, hx2562⟩
      · rintro G2576 e2577 i2573 x2574 v2578 σ' G2569 H2572 hx2575 e2580 ⟨s2563, u2564, u2565, w2570, e2571, rfl, hm2567⟩ r2579
        obtain ⟨q2568, hb2566, hm2567⟩ := forL_at hx2575 hm2567
        have h2581 := Rep.mono _ e2571 hpairs0
        refine g_name ?_
        unfold m__law_first_error_b1 at hb2566
        obtain ⟨xs2582, hx2583, hb2566⟩ := bindS hb2566
        obtain ⟨t2585, hx2586, hb2566⟩ := bindS hb2566
        refine x_forT w2570 (e_cv (c := fun x => [x.1, x.2]) (e_var (R := (rP rI rI)) (x := x2574) rfl r2579) rPT) (by first | (simp only [be1, bs1, ba1] at hx2583 ⊢; exact hx2583) | exact hx2583) (fun i G' H' σ' => ∃ s2587 : Unit, ∃ u2588 : Option V, Wo G H [] G' H' [] ∧ Evl.Ex G2569 G' ∧ σ' = [some (V.int size0), some vpairs0, some v2578, none, none, none, none, none, u2588, none, none] ∧ forL (m__law_first_error_b2 size0) (xs2582.drop i) s2587 = some t2585) (fun _ _ _ _ ⟨_, _, w, _⟩ => w.ex) ?_ ?_ ?_
        · intro G' H' w' e'
          exact ⟨(), (u2565), w', e', rfl, hx2586⟩
        · rintro G2599 e2600 i2596 x2597 v2601 σ' G2592 H2595 hx2598 e2603 ⟨s2587, u2588, w2593, e2594, rfl, hm2590⟩ r2602
          obtain ⟨q2591, hb2589, hm2590⟩ := forL_at hx2598 hm2590
          have h2604 := Rep.mono _ e2594 h2581
          have h2605 := Rep.mono _ e2594 r2579
          refine g_name ?_
          cases r2602
          unfold m__law_first_error_b2 at hb2589
          obtain ⟨b2606, hx2607, hb2589⟩ := bindS hb2589
          refine x_if w2593 (et_orP (et_T (e_op rr_lt (e_var (R := rI) (x := x2597) rfl rfl) e_int)) (et_T (e_op rr_ge (e_var (R := rI) (x := x2597) rfl rfl) (e_var (R := rI) (x := size0) rfl rfl)))) hx2607 ?_ ?_
          · intro hbb2606 H2608 w2609
            subst hbb2606
            have hb2589 := bifT hb2589
            obtain ⟨a2610, hx2611, hb2589⟩ := bindS hb2589
            have hb2589 : some (Stp.rt a2610) = some q2591 := hb2589
            cases hb2589
            have hm2590 : some (Sum.inr a2610) = some t2585 := hm2590
            cases hm2590
            have hb2566 : some (Stp.rt a2610) = some q2568 := hb2566
            cases hb2566
            have hm2567 : some (Sum.inr a2610) = some t2561 := hm2567
            cases hm2567
            have h : a2610 = r := Option.some.inj h
            subst h
            exact x_ret w2609 (e_toD (K := K) (e_pair e_str (e_var (R := rI) (x := x2597) rfl rfl)) (dtP dtS dtI) (by decide)) hx2611 (fun v9 H9 G9 w9 e9 r9 => k v9 H9 G9 w9.upE r9)
          · intro hbb2606 H2612 w2613
            subst hbb2606
            have hb2589 := bifF hb2589
            refine x_next ?_
            refine x_next ?_
            have hb2589 : Stp.nx () = q2591 := Option.some.inj hb2589
            subst hb2589
            exact ⟨G2592, (e2603.trans (Evl.Ex.refl _)), (), (some (V.int x2597)), w2613, e2594, rfl, hm2590⟩
        · rintro σ' G2614 H2617 e2618 ⟨s2587, u2588, w2615, e2616, rfl, hm2590⟩
          have hm2590 := forL_end hm2590
          subst hm2590
          have hb2566 := elimL hb2566
          have h2620 := Rep.mono _ e2616 h2581
          have h2621 := Rep.mono _ e2616 r2579
          refine x_next ?_
          have hb2566 : Stp.nx () = q2568 := Option.some.inj hb2566
          subst hb2566
          exact ⟨G2614, (e2580.trans e2616), (), (some v2578), (u2588), w2615, (e2571.trans e2616), rfl, hm2567⟩
      · rintro σ' G2622 H2625 e2626 ⟨s2563, u2564, u2565, w2623, e2624, rfl, hm2567⟩
        have hm2567 := forL_end hm2567
        subst hm2567
        have h := elimL h
        have h2628 := Rep.mono _ e2624 hpairs0
        obtain ⟨rows_2629, hx2630, h⟩ := bindS h
        refine x_set w2623 (e_call (ea_cons (e_var (R := rI) (x := size0) rfl rfl) (ea_cons (e_var (R := (rL (rP rI rI))) (x := pairs0) rfl h2628) ea_nil))) (by first | (simp only [be1, bs1, ba1] at hx2630 ⊢; exact hx2630) | exact hx2630) ?_
        intro v2633 H2631 G2634 w2632 e2635 h2636
        have h2637 := Rep.mono _ e2635 h2628
        obtain ⟨n2638, hx2639, h⟩ := bindS h
        obtain ⟨xs2640, hx2641, h⟩ := bindS h
        obtain ⟨t2643, hx2644, h⟩ := bindS h
        refine x_forR w2632 (ea_cons (Sim.E.is (e_var (R := rI) (x := size0) rfl rfl) hx2639) ea_nil) rfl hx2641 (fun i G' H' σ' => ∃ s2645 : Unit, ∃ u2646 : Option V, ∃ u2647 : Option V, Wo G H [] G' H' [] ∧ Evl.Ex G2634 G' ∧ σ' = [some (V.int size0), some vpairs0, u2564, some v2633, u2646, none, none, none, u2565, u2647, none] ∧ forL (m__law_first_error_b3 size0 rows_2629) (xs2640.drop i) s2645 = some t2643) ?_ ?_ ?_
        · intro G' H' w' e'
          exact ⟨(), (none), (none), w', e', rfl, hx2644⟩
        · rintro i2655 x2656 σ' G2651 H2654 hx2657 ⟨s2645, u2646, u2647, w2652, e2653, rfl, hm2649⟩
          obtain ⟨q2650, hb2648, hm2649⟩ := forL_at hx2657 hm2649
          have h2658 := Rep.mono _ e2653 h2637
          have h2659 := Rep.mono _ e2653 h2636
          refine g_name ?_
          unfold m__law_first_error_b3 at hb2648
          obtain ⟨n2660, hx2661, hb2648⟩ := bindS hb2648
          obtain ⟨n2662, hx2663, hb2648⟩ := bindS hb2648
          obtain ⟨xs2664, hx2665, hb2648⟩ := bindS hb2648
          obtain ⟨t2667, hx2668, hb2648⟩ := bindS hb2648
          refine x_forR2 w2652 (ea_cons (Sim.E.is (e_op rr_add (e_var (R := rI) (x := x2656) rfl rfl) e_int) hx2661) (ea_cons (Sim.E.is (e_var (R := rI) (x := size0) rfl rfl) hx2663) ea_nil)) rfl hx2665 (fun i G' H' σ' => ∃ s2669 : Unit, ∃ u2670 : Option V, Wo G H [] G' H' [] ∧ Evl.Ex G2651 G' ∧ σ' = [some (V.int size0), some vpairs0, u2564, some v2633, some (V.int x2656), none, none, none, u2565, u2670, none] ∧ forL (m__law_first_error_b4 rows_2629 x2656) (xs2664.drop i) s2669 = some t2667) ?_ ?_ ?_
          · intro G' H' w' e'
            exact ⟨(), (u2647), w', e', rfl, hx2668⟩
          · rintro i2678 x2679 σ' G2674 H2677 hx2680 ⟨s2669, u2670, w2675, e2676, rfl, hm2672⟩
            obtain ⟨q2673, hb2671, hm2672⟩ := forL_at hx2680 hm2672
            have h2681 := Rep.mono _ e2676 h2658
            have h2682 := Rep.mono _ e2676 h2659
            refine g_name ?_
            unfold m__law_first_error_b4 at hb2671
            obtain ⟨b2685, hx2686, hb2671⟩ := bindS hb2671
            refine x_if w2675 (et_and (et_B (e_op rr_ixL (e_op rr_ixL (e_var (R := (rL (rL rB))) (x := rows_2629) rfl (Rep.mono _ w2675.ex h2682)) (e_var (R := rI) (x := x2656) rfl rfl)) (e_var (R := rI) (x := x2679) rfl rfl))) (et_B (e_op rr_ixL (e_op rr_ixL (e_var (R := (rL (rL rB))) (x := rows_2629) rfl (Rep.mono _ w2675.ex h2682)) (e_var (R := rI) (x := x2679) rfl rfl)) (e_var (R := rI) (x := x2656) rfl rfl)))) (by first | (simp only [be1, bs1, ba1] at hx2686 ⊢; exact hx2686) | exact hx2686) ?_ ?_
            · intro hbb2685 H2687 w2688
              subst hbb2685
              have hb2671 := bifT hb2671
              obtain ⟨a2689, hx2690, hb2671⟩ := bindS hb2671
              have hb2671 : some (Stp.rt a2689) = some q2673 := hb2671
              cases hb2671
              have hm2672 : some (Sum.inr a2689) = some t2667 := hm2672
              cases hm2672
              have hb2648 : some (Stp.rt a2689) = some q2650 := hb2648
              cases hb2648
              have hm2649 : some (Sum.inr a2689) = some t2643 := hm2649
              cases hm2649
              have h : a2689 = r := Option.some.inj h
              subst h
              exact x_ret w2688 (e_toDT (K := K) (e_tupH (eal_cons (e_toD (K := K) e_str dtS (by decide)) (eal_cons (e_toD (K := K) (e_var (R := rI) (x := x2656) rfl rfl) dtI (by decide)) (eal_cons (e_toD (K := K) (e_var (R := rI) (x := x2679) rfl rfl) dtI (by decide)) eal_nil))))) hx2690 (fun v9 H9 G9 w9 e9 r9 => k v9 H9 G9 w9.upE r9)
            · intro hbb2685 H2691 w2692
              subst hbb2685
              have hb2671 := bifF hb2671
              refine x_next ?_
              refine x_next ?_
              have hb2671 : Stp.nx () = q2673 := Option.some.inj hb2671
              subst hb2671
              exact ⟨G2674, (), (some (V.int x2679)), w2692, e2676, rfl, hm2672⟩
          · rintro σ' G2693 H2696 ⟨s2669, u2670, w2694, e2695, rfl, hm2672⟩
            have hm2672 := forL_end hm2672
            subst hm2672
            have hb2648 := elimL hb2648
            have h2698 := Rep.mono _ e2695 h2658
            have h2699 := Rep.mono _ e2695 h2659
            refine x_next ?_
            have hb2648 : Stp.nx () = q2650 := Option.some.inj hb2648
            subst hb2648
            exact ⟨G2693, (), (some (V.int x2656)), (u2670), w2694, (e2653.trans e2695), rfl, hm2649⟩
        · rintro σ' G2700 H2703 ⟨s2645, u2646, u2647, w2701, e2702, rfl, hm2649⟩
          have hm2649 := forL_end hm2649
          subst hm2649
          have h := elimL h
          have h2705 := Rep.mono _ e2702 h2637
          have h2706 := Rep.mono _ e2702 h2636
          obtain ⟨lack_2707, hx2708, h⟩ := bindS h
          refine x_set w2701 (e_call (ea_cons (e_var (R := (rL (rL rB))) (x := rows_2629) rfl h2706) ea_nil)) (by first | (simp only [be1, bs1, ba1] at hx2708 ⊢; exact hx2708) | exact hx2708) ?_
          intro v2711 H2709 G2712 w2710 e2713 h2714
          have h2715 := Rep.mono _ e2713 h2705
          have h2716 := Rep.mono _ e2713 h2706
          obtain ⟨b2717, hx2718, h⟩ := bindS h
          refine x_if w2710 (et_T (e_op (rr_notN nnP) (e_var (R := (rO (rP rI rI))) (x := lack_2707) rfl (Rep.mono _ w2710.ex h2714)) e_non)) hx2718 ?_ ?_
          · intro hbb2717 H2719 w2720
            subst hbb2717
            have h := bifT h
            obtain ⟨a2730, hx2731, h⟩ := bindS h
            have h : a2730 = r := Option.some.inj h
            subst h
            exact x_ret w2720 (e_toDT (K := K) (e_tupH (eal_cons (e_toD (K := K) e_str dtS (by decide)) (eal_cons (e_toD (K := K) (e_fst (e_get (e_var (R := (rO (rP rI rI))) (x := lack_2707) rfl h2714))) dtI (by decide)) (eal_cons (e_toD (K := K) (e_snd (e_get (e_var (R := (rO (rP rI rI))) (x := lack_2707) rfl h2714))) dtI (by decide)) eal_nil))))) (by first | (simp only [be1, bs1, ba1] at hx2731 ⊢; exact hx2731) | exact hx2731) (fun v9 H9 G9 w9 e9 r9 => k v9 H9 G9 w9.upE r9)
          · intro hbb2717 H2732 w2733
            subst hbb2717
            have h := bifF h
            refine x_next ?_
            obtain ⟨turned_2734, hx2735, h⟩ := bindS h
            refine x_setL w2733 (el_disp (R := (rL rB)) eal_nil) hx2735 ?_
            intro p2738 H2736 G2739 n2740 w2737 e2741
            have h2742 := Rep.mono _ e2741 h2715
            have h2743 := Rep.mono _ e2741 h2716
            have h2744 := Rep.mono _ e2741 h2714
            obtain ⟨n2745, hx2746, h⟩ := bindS h
            obtain ⟨xs2747, hx2748, h⟩ := bindS h
            obtain ⟨t2750, hx2751, h⟩ := bindS h
            refine x_forR w2737 (ea_cons (Sim.E.is (e_var (R := rI) (x := size0) rfl rfl) hx2746) ea_nil) rfl hx2748 (fun i G' H' σ' => ∃ s2752 : (List (List Bool)), ∃ u2753 : Option V, ∃ u2754 : Option V, Wo G H [] G' H' [(p2738, cL (rL rB) s2752)] ∧ Evl.Ex G2739 G' ∧ σ' = [some (V.int size0), some vpairs0, u2564, some v2633, u2646, some v2711, some (V.ref p2738), u2754, u2565, u2647, u2753] ∧ forS (m__law_first_error_b5 size0 rows_2629) (xs2747.drop i) s2752 = some t2750) ?_ ?_ ?_
            · intro G' H' w' e'
              exact ⟨turned_2734, (none), (none), w', e', rfl, hx2751⟩
            · rintro i2762 x2763 σ' G2758 H2761 hx2764 ⟨s2752, u2753, u2754, w2759, e2760, rfl, hm2756⟩
              obtain ⟨q2757, hb2755, hm2756⟩ := forS_at hx2764 hm2756
              have h2765 := Rep.mono _ e2760 h2742
              have h2766 := Rep.mono _ e2760 h2743
              have h2767 := Rep.mono _ e2760 h2744
              refine g_name ?_
              unfold m__law_first_error_b5 at hb2755
              obtain ⟨a2776, hx2778, hb2755⟩ := bindS hb2755
              obtain ⟨turned_2777, hx2779, hb2755⟩ := bindS hb2755
              obtain ⟨hs2780, rfl⟩ := appM_ok hx2779
              refine x_app (j := 0) w2759 rfl hs2780 rfl (EL.e (el_mapR (el_lcR (j := 10) (ea_cons (e_var (R := rI) (x := size0) rfl rfl) ea_nil) (fun _ => rfl) (fun _ _ _ _ _ _ => et_yes) (fun x2771 G2772 W2773 eG2768 eW2769 eX2770 => (e_op rr_ixL (e_op rr_ixL (e_var (R := (rL (rL rB))) (x := rows_2629) rfl (Rep.mono _ eG2768 h2766)) (e_var (R := rI) (x := x2771) rfl rfl)) (e_var (R := rI) (x := x2763) rfl rfl)))))) (by first | (simp only [be1, bs1, ba1] at hx2778 ⊢; exact hx2778) | exact hx2778) ?_
              intro H2781 G2782 w2783 e2784
              have h2785 := Rep.mono _ e2784 h2765
              have h2786 := Rep.mono _ e2784 h2766
              have h2787 := Rep.mono _ e2784 h2767
              have w2783 : Wo G H [] G2782 H2781 [(p2738, cL (rL rB) (s2752 ++ [a2776]))] := w2783
              refine x_next ?_
              have hb2755 : (s2752 ++ [a2776]) = q2757 := Option.some.inj hb2755
              subst hb2755
              exact ⟨G2782, (s2752 ++ [a2776]), (u2753), (some (V.int x2763)), w2783, (e2760.trans e2784), rfl, hm2756⟩
            · rintro σ' G2788 H2791 ⟨s2752, u2753, u2754, w2789, e2790, rfl, hm2756⟩
              have hm2756 := forS_end hm2756
              subst hm2756
              have h2793 := Rep.mono _ e2790 h2742
              have h2794 := Rep.mono _ e2790 h2743
              have h2795 := Rep.mono _ e2790 h2744
              obtain ⟨G2796, w2797, e2798, h2799⟩ := w2789.freezeAt (i := 0) rfl n2740
              have h2800 := Rep.mono _ e2798 h2793
              have h2801 := Rep.mono _ e2798 h2794
              have h2802 := Rep.mono _ e2798 h2795
              have w2797 : Wo G H [] G2796 H2791 [] := w2797
              obtain ⟨lack_2803, hx2804, h⟩ := bindS h
              refine x_set w2797 (e_call (ea_cons (e_var (R := (rL (rL rB))) (x := s2752) rfl h2799) ea_nil)) (by first | (simp only [be1, bs1, ba1] at hx2804 ⊢; exact hx2804) | exact hx2804) ?_
              intro v2807 H2805 G2808 w2806 e2809 h2810
              have h2811 := Rep.mono _ e2809 h2800
              have h2812 := Rep.mono _ e2809 h2801
              have h2813 := Rep.mono _ e2809 h2802
              have h2814 := Rep.mono _ e2809 h2799
              obtain ⟨b2815, hx2816, h⟩ := bindS h
              refine x_if w2806 (et_T (e_op (rr_notN nnP) (e_var (R := (rO (rP rI rI))) (x := lack_2803) rfl (Rep.mono _ w2806.ex h2810)) e_non)) hx2816 ?_ ?_
              · intro hbb2815 H2817 w2818
                subst hbb2815
                have h := bifT h
                obtain ⟨a2828, hx2829, h⟩ := bindS h
                have h : a2828 = r := Option.some.inj h
                subst h
                exact x_ret w2818 (e_toDT (K := K) (e_tupH (eal_cons (e_toD (K := K) e_str dtS (by decide)) (eal_cons (e_toD (K := K) (e_fst (e_get (e_var (R := (rO (rP rI rI))) (x := lack_2803) rfl h2810))) dtI (by decide)) (eal_cons (e_toD (K := K) (e_snd (e_get (e_var (R := (rO (rP rI rI))) (x := lack_2803) rfl h2810))) dtI (by decide)) eal_nil))))) (by first | (simp only [be1, bs1, ba1] at hx2829 ⊢; exact hx2829) | exact hx2829) (fun v9 H9 G9 w9 e9 r9 => k v9 H9 G9 w9.upE r9)
              · intro hbb2815 H2830 w2831
                subst hbb2815
                have h := bifF h
                refine x_next ?_
                obtain ⟨a2832, hx2833, h⟩ := bindS h
                have h : a2832 = r := Option.some.inj h
                subst h
                exact x_ret w2831 (e_toD (K := K) (e_pair e_str (e_var (R := rI) (x := size0) rfl rfl)) (dtP dtS dtI) (by decide)) hx2833 (fun v9 H9 G9 w9 e9 r9 => k v9 H9 G9 w9.upE r9)
def m__law_outcome (size0 : Int) (pairs0 : (List (Int × Int))) : Option PyData :=
  (some (none : (Option m_Order)) >>= fun order_2834 => (some PyData.none >>= fun got_2843 => ((m_Order___init___X size0 pairs0 >>= fun r2976 => Sum.elim (fun e2978 => (bif (["BadSize"] : List Str).contains e2978.cls then (((xI e2978 "size" >>= fun t2991 => some (("size" : Str), t2991)) >>= fun t2992 => some (PyData.tuple [PyData.str t2992.1, PyData.int t2992.2])) >>= fun got_2993 => some (got_2993, order_2834)) else (bif (["NotElement"] : List Str).contains e2978.cls then (((xI e2978 "value" >>= fun t3007 => some (("element" : Str), t3007)) >>= fun t3008 => some (PyData.tuple [PyData.str t3008.1, PyData.int t3008.2])) >>= fun got_3009 => some (got_3009, order_2834)) else (bif (["Ring"] : List Str).contains e2978.cls then ((((xI e2978 "first" >>= fun t3023 => some (PyData.int t3023)) >>= fun t3025 => ((xI e2978 "second" >>= fun t3024 => some (PyData.int t3024)) >>= fun t3026 => some ([(PyData.str ("ring" : Str)), t3025, t3026]))) >>= fun t3027 => (toDM (PyData.tuple t3027))) >>= fun got_3028 => some (got_3028, order_2834)) else (bif (["NoJoin"] : List Str).contains e2978.cls then ((((xI e2978 "first" >>= fun t3042 => some (PyData.int t3042)) >>= fun t3044 => ((xI e2978 "second" >>= fun t3043 => some (PyData.int t3043)) >>= fun t3045 => some ([(PyData.str ("join" : Str)), t3044, t3045]))) >>= fun t3046 => (toDM (PyData.tuple t3046))) >>= fun got_3047 => some (got_3047, order_2834)) else (bif (["NoMeet"] : List Str).contains e2978.cls then ((((xI e2978 "first" >>= fun t3061 => some (PyData.int t3061)) >>= fun t3063 => ((xI e2978 "second" >>= fun t3062 => some (PyData.int t3062)) >>= fun t3064 => some ([(PyData.str ("meet" : Str)), t3063, t3064]))) >>= fun t3065 => (toDM (PyData.tuple t3065))) >>= fun got_3066 => some (got_3066, order_2834)) else none)))))) (fun x3078 => some (got_2843, (some x3078))) r2976) >>= fun s2967 => ((some (s2967.2.isSome && (noneD s2967.1)) >>= fun b3092 => bif b3092 then ((((s2967.2 >>= fun t3117 => (m_Order___len__ t3117 >>= lenM)) >>= fun t3118 => some (("fine" : Str), t3118)) >>= fun t3119 => some (PyData.tuple [PyData.str t3119.1, PyData.int t3119.2])) >>= fun got_3120 => some got_3120) else some s2967.1) >>= fun s3107 => (some s3107 >>= fun a3137 => some a3137)))))
theorem sc__law_outcome : FnScope ["_law_size", "_law_pairs", "_law_order", "_law_got", "_law_e"] ["_law_size", "_law_pairs"] (defScope s__law_outcome) := ⟨rfl, rfl, rfl, by decide +kernel, rfl, by decide +kernel, by decide +kernel⟩
theorem ok__law_outcome (T : Tx K mg) : Fk P w K mg base CX0 5 "_law_outcome" ["_law_size", "_law_pairs"] (PF (aC rI (aC (rL (rP rI rI)) aN)) (rD K) (fun i => m__law_outcome i.1 i.2.1)) := by
  obtain ⟨fd_Order___init___X, G_Order___init___X, b_Order___init___X⟩ := ok_Order___init___X (w := w) (base := base) T
  obtain ⟨fd_Order___len__, G_Order___len__, b_Order___len__⟩ := ok_Order___len__ (w := w) (base := base) T
  obtain ⟨fd, F⟩ := T.def_ 20 rfl
  have nd := sc__law_outcome.nd
  refine fk_mk T.toTx (x := "_law_outcome") (T.glo 26 rfl) F (fun _ _ _ _ _ _ us hl => match us, hl with | [_, _], _ => rfl) (F.ok sc__law_outcome (fun vs H Q E h => ?_) (fun cdv A outer s H vs Q E hr h => ?_))
  · obtain ⟨G, ⟨size0, pairs0, ⟨⟩⟩, r, e0, ⟨vsize0, _, rfl, hsize0, vpairs0, _, rfl, hpairs0, rfl⟩, h, k⟩ := h
    rfl
  · obtain ⟨G, ⟨size0, pairs0, ⟨⟩⟩, r, e0, ⟨vsize0, _, rfl, hsize0, vpairs0, _, rfl, hpairs0, rfl⟩, h, k⟩ := h
    cases hsize0
    have w0 := Wo.start e0
    have h : m__law_outcome size0 pairs0 = some r := h
    unfold m__law_outcome at h
    refine ⟨_, PSs.nox (pss_cons (ps_set (i := 2) nd rfl (Or.inl rfl) pe_non) (pss_cons (ps_set (i := 3) nd rfl (Or.inl rfl) pe_non) (Evl.pss_cut (ps_tryA nd rfl rfl takes_no (fun _ _ _ tk2853 po2853 => (pss_cons (ps_set (i := 2) nd rfl (Or.inl rfl) (pe_makeT (T.mkr 49 rfl) G_Order___init___X (hr.mono (by decide)) rfl (T.glo 15 rfl) b_Order___init___X (passAt tk2853) (pa_cons (pv 0) (pa_cons (pv 1) pa_nil)))) pss_nil)) (HdsA.as_ (i := 4) ⟨by rfl, by decide, Or.inl (T.glo 2 rfl)⟩ rfl rfl (fun a12853_0 oe2853_0 cls2853_0 d2853_0 pn2853_0 z2853_0 f2853_0 => (pss_cons (ps_set (i := 3) nd rfl (Or.inl rfl) (pe_tup (pa_cons pe_str (pa_cons (pe_xz z2853_0 f2853_0 (pv 4)) pa_nil)))) pss_nil)) (HdsA.as_ (i := 4) ⟨by rfl, by decide, Or.inl (T.glo 3 rfl)⟩ rfl rfl (fun a12853_1 oe2853_1 cls2853_1 d2853_1 pn2853_1 z2853_1 f2853_1 => (pss_cons (ps_set (i := 3) nd rfl (Or.inl rfl) (pe_tup (pa_cons pe_str (pa_cons (pe_xz z2853_1 f2853_1 (pv 4)) pa_nil)))) pss_nil)) (HdsA.as_ (i := 4) ⟨by rfl, by decide, Or.inl (T.glo 4 rfl)⟩ rfl rfl (fun a12853_2 oe2853_2 cls2853_2 d2853_2 pn2853_2 z2853_2 f2853_2 => (pss_cons (ps_set (i := 3) nd rfl (Or.inl rfl) (pe_tup (pa_cons pe_str (pa_cons (pe_xz z2853_2 f2853_2 (pv 4)) (pa_cons (pe_xz z2853_2 f2853_2 (pv 4)) pa_nil))))) pss_nil)) (HdsA.as_ (i := 4) ⟨by rfl, by decide, Or.inl (T.glo 5 rfl)⟩ rfl rfl (fun a12853_3 oe2853_3 cls2853_3 d2853_3 pn2853_3 z2853_3 f2853_3 => (pss_cons (ps_set (i := 3) nd rfl (Or.inl rfl) (pe_tup (pa_cons pe_str (pa_cons (pe_xz z2853_3 f2853_3 (pv 4)) (pa_cons (pe_xz z2853_3 f2853_3 (pv 4)) pa_nil))))) pss_nil)) (HdsA.as_ (i := 4) ⟨by rfl, by decide, Or.inl (T.glo 6 rfl)⟩ rfl rfl (fun a12853_4 oe2853_4 cls2853_4 d2853_4 pn2853_4 z2853_4 f2853_4 => (pss_cons (ps_set (i := 3) nd rfl (Or.inl rfl) (pe_tup (pa_cons pe_str (pa_cons (pe_xz z2853_4 f2853_4 (pv 4)) (pa_cons (pe_xz z2853_4 f2853_4 (pv 4)) pa_nil))))) pss_nil)) HdsA.nil)))))) (Evl.pss_cut (ps_if (PW.pt (pw_and (pt_cmpR op_notN (pv 2) pe_non (nomark _)) (pw_and1 (pt_cmpR op_isN (pv 3) pe_non (nomark _))))) (pss_cons (ps_set (i := 3) nd rfl (Or.inl rfl) (pe_tup (pa_cons pe_str (pa_cons (pe_callB (call_lenO G_Order___len__ (hr.mono (by decide)) (T.meth 50 rfl) b_Order___len__) (by rfl) (fr_len T) (by decide +kernel) (pa_cons (pv 2) pa_nil)) pa_nil)))) pss_nil) pss_nil) (pss_cons (ps_ret (pv 3)) pss_nil))))), ?_⟩
    obtain ⟨order_2834, hx2835, h⟩ := bindS h
    refine x_set w0 (e_none (R := (r_Order K))) hx2835 ?_
    intro v2838 H2836 G2839 w2837 e2840 h2841
    have h2842 := Rep.mono _ e2840 hpairs0
    obtain ⟨got_2843, hx2844, h⟩ := bindS h
    refine x_set w2837 (e_nonD (K := K)) hx2844 ?_
    intro v2847 H2845 G2848 w2846 e2849 h2850
    have h2851 := Rep.mono _ e2849 h2842
    have h2852 := Rep.mono _ e2849 h2841
    obtain ⟨s2967, hx2968, h⟩ := bindS h
    refine o_cut (fun σ' H' => ∃ v2969 : V, ∃ v2971 : V, ∃ u2973 : Option V, ∃ G' : Hp, Wo G H [] G' H' [] ∧ Evl.Ex G2848 G' ∧ σ' = [some (V.int size0), some vpairs0, some v2971, some v2969, u2973] ∧ (rD K).r G' v2969 s2967.1 ∧ (rO (r_Order K)).r G' v2971 s2967.2) ?_ ?_
    · refine o_try ?_
      obtain ⟨r2976, hx2977, hx2968⟩ := bindS hx2968
      refine x_setX w2846 (ex_make (ea_cons (e_var (R := rI) (x := size0) rfl rfl) (ea_cons (e_var (R := (rL (rP rI rI))) (x := pairs0) rfl h2851) ea_nil))) (by first | (simp only [be1, bs1, ba1] at hx2977 ⊢; exact hx2977) | exact hx2977) ?_ ?_
      · intro e2978 he2979 d2980 H2981 G2982 w2983 e2984 xa2985
        subst he2979
        have hx2968 := sumL hx2968
        have h2986 := Rep.mono _ e2984 h2851
        have h2987 := Rep.mono _ e2984 h2852
        have h2988 := Rep.mono _ e2984 h2850
        rcases bifO hx2968 with ⟨hc2989, hx2968⟩ | ⟨_, hx2968⟩
        · refine ⟨true, xa_ok (T.mo 3 rfl) hc2989, fun _ ax2990 naax2990 => ?_, fun z => nomatch z⟩
          obtain ⟨got_2993, hx2994, hx2968⟩ := bindS hx2968
          refine x_set w2983 (e_toD (K := K) (e_pair e_str (e_xz (a := ax2990) rfl xa2985 (xs_ok (T.mo 1 rfl) hc2989).2 (xn_ok (T.mo 2 rfl) hc2989 (by decide)))) (dtP dtS dtI) (by decide)) (by first | (simp only [be1, bs1, ba1] at hx2994 ⊢; exact hx2994) | exact hx2994) ?_
          intro v2997 H2995 G2998 w2996 e2999 h3000
          have h3001 := Rep.mono _ e2999 h2986
          have h3002 := Rep.mono _ e2999 h2987
          have h3003 := Rep.mono _ e2999 h2988
          have xa3004 := Xat.mono e2999 xa2985
          refine x_next ?_
          have hx2968 : (got_2993, order_2834) = s2967 := Option.some.inj hx2968
          subst hx2968
          exact ⟨v2997, v2838, (none), G2998, w2996, (e2984.trans e2999), rfl, h3000, h3002⟩
        · rcases bifO hx2968 with ⟨hc3005, hx2968⟩ | ⟨_, hx2968⟩
          · refine ⟨false, xa_ok (T.mo 4 rfl) hc3005, fun z => Bool.noConfusion z, fun _ => ?_⟩
            refine ⟨true, xa_ok (T.mo 7 rfl) hc3005, fun _ ax3006 naax3006 => ?_, fun z => nomatch z⟩
            obtain ⟨got_3009, hx3010, hx2968⟩ := bindS hx2968
            refine x_set w2983 (e_toD (K := K) (e_pair e_str (e_xz (a := ax3006) rfl xa2985 (xs_ok (T.mo 5 rfl) hc3005).2 (xn_ok (T.mo 6 rfl) hc3005 (by decide)))) (dtP dtS dtI) (by decide)) (by first | (simp only [be1, bs1, ba1] at hx3010 ⊢; exact hx3010) | exact hx3010) ?_
            intro v3013 H3011 G3014 w3012 e3015 h3016
            have h3017 := Rep.mono _ e3015 h2986
            have h3018 := Rep.mono _ e3015 h2987
            have h3019 := Rep.mono _ e3015 h2988
            have xa3020 := Xat.mono e3015 xa2985
            refine x_next ?_
            have hx2968 : (got_3009, order_2834) = s2967 := Option.some.inj hx2968
            subst hx2968
            exact ⟨v3013, v2838, (none), G3014, w3012, (e2984.trans e3015), rfl, h3016, h3018⟩
          · rcases bifO hx2968 with ⟨hc3021, hx2968⟩ | ⟨_, hx2968⟩
            · refine ⟨false, xa_ok (T.mo 8 rfl) hc3021, fun z => Bool.noConfusion z, fun _ => ?_⟩
              refine ⟨false, xa_ok (T.mo 9 rfl) hc3021, fun z => Bool.noConfusion z, fun _ => ?_⟩
              refine ⟨true, xa_ok (T.mo 13 rfl) hc3021, fun _ ax3022 naax3022 => ?_, fun z => nomatch z⟩
              obtain ⟨got_3028, hx3029, hx2968⟩ := bindS hx2968
              refine x_set w2983 (e_toDT (K := K) (e_tupH (eal_cons (e_toD (K := K) e_str dtS (by decide)) (eal_cons (e_toD (K := K) (e_xz (a := ax3022) rfl xa2985 (xs_ok (T.mo 10 rfl) hc3021).2 (xn_ok (T.mo 11 rfl) hc3021 (by decide))) dtI (by decide)) (eal_cons (e_toD (K := K) (e_xz (a := ax3022) rfl xa2985 (xs_ok (T.mo 10 rfl) hc3021).2 (xn_ok (T.mo 12 rfl) hc3021 (by decide))) dtI (by decide)) eal_nil))))) (by first | (simp only [be1, bs1, ba1] at hx3029 ⊢; exact hx3029) | exact hx3029) ?_
              intro v3032 H3030 G3033 w3031 e3034 h3035
              have h3036 := Rep.mono _ e3034 h2986
              have h3037 := Rep.mono _ e3034 h2987
              have h3038 := Rep.mono _ e3034 h2988
              have xa3039 := Xat.mono e3034 xa2985
              refine x_next ?_
              have hx2968 : (got_3028, order_2834) = s2967 := Option.some.inj hx2968
              subst hx2968
              exact ⟨v3032, v2838, (none), G3033, w3031, (e2984.trans e3034), rfl, h3035, h3037⟩
            · rcases bifO hx2968 with ⟨hc3040, hx2968⟩ | ⟨_, hx2968⟩
              · refine ⟨false, xa_ok (T.mo 14 rfl) hc3040, fun z => Bool.noConfusion z, fun _ => ?_⟩
                refine ⟨false, xa_ok (T.mo 15 rfl) hc3040, fun z => Bool.noConfusion z, fun _ => ?_⟩
                refine ⟨false, xa_ok (T.mo 16 rfl) hc3040, fun z => Bool.noConfusion z, fun _ => ?_⟩
                refine ⟨true, xa_ok (T.mo 20 rfl) hc3040, fun _ ax3041 naax3041 => ?_, fun z => nomatch z⟩
                obtain ⟨got_3047, hx3048, hx2968⟩ := bindS hx2968
                refine x_set w2983 (e_toDT (K := K) (e_tupH (eal_cons (e_toD (K := K) e_str dtS (by decide)) (eal_cons (e_toD (K := K) (e_xz (a := ax3041) rfl xa2985 (xs_ok (T.mo 17 rfl) hc3040).2 (xn_ok (T.mo 18 rfl) hc3040 (by decide))) dtI (by decide)) (eal_cons (e_toD (K := K) (e_xz (a := ax3041) rfl xa2985 (xs_ok (T.mo 17 rfl) hc3040).2 (xn_ok (T.mo 19 rfl) hc3040 (by decide))) dtI (by decide)) eal_nil))))) (by first | (simp only [be1, bs1, ba1] at hx3048 ⊢; exact hx3048) | exact hx3048) ?_
                intro v3051 H3049 G3052 w3050 e3053 h3054
                have h3055 := Rep.mono _ e3053 h2986
                have h3056 := Rep.mono _ e3053 h2987
                have h3057 := Rep.mono _ e3053 h2988
                have xa3058 := Xat.mono e3053 xa2985
                refine x_next ?_
                have hx2968 : (got_3047, order_2834) = s2967 := Option.some.inj hx2968
                subst hx2968
                exact ⟨v3051, v2838, (none), G3052, w3050, (e2984.trans e3053), rfl, h3054, h3056⟩
              · rcases bifO hx2968 with ⟨hc3059, hx2968⟩ | ⟨_, hx2968⟩
                · refine ⟨false, xa_ok (T.mo 21 rfl) hc3059, fun z => Bool.noConfusion z, fun _ => ?_⟩
                  refine ⟨false, xa_ok (T.mo 22 rfl) hc3059, fun z => Bool.noConfusion z, fun _ => ?_⟩
                  refine ⟨false, xa_ok (T.mo 23 rfl) hc3059, fun z => Bool.noConfusion z, fun _ => ?_⟩
                  refine ⟨false, xa_ok (T.mo 24 rfl) hc3059, fun z => Bool.noConfusion z, fun _ => ?_⟩
                  refine ⟨true, xa_ok (T.mo 28 rfl) hc3059, fun _ ax3060 naax3060 => ?_, fun z => nomatch z⟩
                  obtain ⟨got_3066, hx3067, hx2968⟩ := bindS hx2968
                  refine x_set w2983 (e_toDT (K := K) (e_tupH (eal_cons (e_toD (K := K) e_str dtS (by decide)) (eal_cons (e_toD (K := K) (e_xz (a := ax3060) rfl xa2985 (xs_ok (T.mo 25 rfl) hc3059).2 (xn_ok (T.mo 26 rfl) hc3059 (by decide))) dtI (by decide)) (eal_cons (e_toD (K := K) (e_xz (a := ax3060) rfl xa2985 (xs_ok (T.mo 25 rfl) hc3059).2 (xn_ok (T.mo 27 rfl) hc3059 (by decide))) dtI (by decide)) eal_nil))))) (by first | (simp only [be1, bs1, ba1] at hx3067 ⊢; exact hx3067) | exact hx3067) ?_
                  intro v3070 H3068 G3071 w3069 e3072 h3073
                  have h3074 := Rep.mono _ e3072 h2986
                  have h3075 := Rep.mono _ e3072 h2987
                  have h3076 := Rep.mono _ e3072 h2988
                  have xa3077 := Xat.mono e3072 xa2985
                  refine x_next ?_
                  have hx2968 : (got_3066, order_2834) = s2967 := Option.some.inj hx2968
                  subst hx2968
                  exact ⟨v3070, v2838, (none), G3071, w3069, (e2984.trans e3072), rfl, h3073, h3075⟩
                · cases hx2968
      · intro x3078 he3079 v3084 H3080 G3081 w3082 e3083 h3085
        subst he3079
        have hx2968 := sumR hx2968
        have h3086 := Rep.mono _ e3083 h2851
        have h3087 := Rep.mono _ e3083 h2852
        have h3088 := Rep.mono _ e3083 h2850
        refine x_next ?_
        have hx2968 : (got_2843, (some x3078)) = s2967 := Option.some.inj hx2968
        subst hx2968
        exact ⟨v2847, v3084, (none), G3081, w3082, e3083, rfl, h3088, (show ((rO (r_Order K))).r _ _ (some x3078) from h3085)⟩
    · rintro σ' H3090 ⟨v2969, v2971, u2973, G3089, w2975, e2974, rfl, h2970, h2972⟩
      have h3091 := Rep.mono _ e2974 h2851
      obtain ⟨s3107, hx3108, h⟩ := bindS h
      refine o_cut (fun σ' H' => ∃ v3109 : V, ∃ G' : Hp, Wo G H [] G' H' [] ∧ Evl.Ex G3089 G' ∧ σ' = [some (V.int size0), some vpairs0, some v2971, some v3109, u2973] ∧ (rD K).r G' v3109 s3107) ?_ ?_
      · obtain ⟨b3092, hx3114, hx3108⟩ := bindS hx3108
        refine x_if w2975 (et_andP (et_T (e_op (rr_notN nnO_) (e_var (R := (rO (r_Order K))) (x := s2967.2) rfl (Rep.mono _ w2975.ex h2972)) e_non)) (et_T (e_op rr_isND (e_var (R := (rD K)) (x := s2967.1) rfl (Rep.mono _ w2975.ex h2970)) e_non))) hx3114 ?_ ?_
        · intro hbb3092 H3115 w3116
          subst hbb3092
          have hx3108 := bifT hx3108
          obtain ⟨got_3120, hx3121, hx3108⟩ := bindS hx3108
          refine x_set w3116 (e_toD (K := K) (e_pair e_str (e_cb rc_lenO (ea_cons (e_get (e_var (R := (rO (r_Order K))) (x := s2967.2) rfl h2972)) ea_nil))) (dtP dtS dtI) (by decide)) (by first | (simp only [be1, bs1, ba1] at hx3121 ⊢; exact hx3121) | exact hx3121) ?_
          intro v3124 H3122 G3125 w3123 e3126 h3127
          have h3128 := Rep.mono _ e3126 h3091
          have h3129 := Rep.mono _ e3126 h2972
          have h3130 := Rep.mono _ e3126 h2970
          refine x_next ?_
          have hx3108 : got_3120 = s3107 := Option.some.inj hx3108
          subst hx3108
          exact ⟨v3124, G3125, w3123, e3126, rfl, h3127⟩
        · intro hbb3092 H3131 w3132
          subst hbb3092
          have hx3108 := bifF hx3108
          refine x_next ?_
          have hx3108 : s2967.1 = s3107 := Option.some.inj hx3108
          subst hx3108
          exact ⟨v2969, G3089, w3132, (Evl.Ex.refl _), rfl, h2970⟩
      · rintro σ' H3136 ⟨v3109, G3133, w3112, e3111, rfl, h3110⟩
        have h3134 := Rep.mono _ e3111 h3091
        have h3135 := Rep.mono _ e3111 h2972
        obtain ⟨a3137, hx3138, h⟩ := bindS h
        have h : a3137 = r := Option.some.inj h
        subst h
        exact x_ret w3112 (e_var (R := (rD K)) (x := s3107) rfl h3110) hx3138 (fun v9 H9 G9 w9 e9 r9 => k v9 H9 G9 w9.upE r9)
def m__law_classes (size0 : Int) (pairs0 : (List (Int × Int))) : Option (List Bool) :=
  (some ([false, false, false, false, false, false]) >>= fun kinds_3139 => ((m_Order___init___X size0 pairs0 >>= fun r3189 => Sum.elim (fun e3191 => (bif (["BadSize", "NotElement", "Ring", "NoJoin", "NoMeet"] : List Str).contains e3191.cls then (some ([true, ((["BadSize"] : List Str).contains e3191.cls), ((["NotElement"] : List Str).contains e3191.cls), ((["Ring"] : List Str).contains e3191.cls), ((["NoJoin"] : List Str).contains e3191.cls), ((["NoMeet"] : List Str).contains e3191.cls)]) >>= fun kinds_3203 => some kinds_3203) else none)) (fun x3214 => some kinds_3139) r3189) >>= fun s3182 => (some s3182 >>= fun a3225 => some a3225)))
theorem sc__law_classes : FnScope ["_law_size", "_law_pairs", "_law_kinds", "_law_e"] ["_law_size", "_law_pairs"] (defScope s__law_classes) := ⟨rfl, rfl, rfl, by decide +kernel, rfl, by decide +kernel, by decide +kernel⟩
theorem ok__law_classes (T : Tx K mg) : Fk P w K mg base CX0 5 "_law_classes" ["_law_size", "_law_pairs"] (PF (aC rI (aC (rL (rP rI rI)) aN)) (rL rB) (fun i => m__law_classes i.1 i.2.1)) := by
  obtain ⟨fd_Order___init___X, G_Order___init___X, b_Order___init___X⟩ := ok_Order___init___X (w := w) (base := base) T
  obtain ⟨fd, F⟩ := T.def_ 21 rfl
  have nd := sc__law_classes.nd
  refine fk_mk T.toTx (x := "_law_classes") (T.glo 27 rfl) F (fun _ _ _ _ _ _ us hl => match us, hl with | [_, _], _ => rfl) (F.ok sc__law_classes (fun vs H Q E h => ?_) (fun cdv A outer s H vs Q E hr h => ?_))
  · obtain ⟨G, ⟨size0, pairs0, ⟨⟩⟩, r, e0, ⟨vsize0, _, rfl, hsize0, vpairs0, _, rfl, hpairs0, rfl⟩, h, k⟩ := h
    rfl
  · obtain ⟨G, ⟨size0, pairs0, ⟨⟩⟩, r, e0, ⟨vsize0, _, rfl, hsize0, vpairs0, _, rfl, hpairs0, rfl⟩, h, k⟩ := h
    cases hsize0
    have w0 := Wo.start e0
    have h : m__law_classes size0 pairs0 = some r := h
    unfold m__law_classes at h
    refine ⟨_, PSs.nox (pss_cons (ps_set (i := 2) nd rfl (Or.inl rfl) (pe_lst (pa_cons pe_bl (pa_cons pe_bl (pa_cons pe_bl (pa_cons pe_bl (pa_cons pe_bl (pa_cons pe_bl pa_nil)))))))) (Evl.pss_cut (ps_tryA nd rfl rfl takes_no (fun _ _ _ tk3148 po3148 => (pss_cons (ps_expr (pe_makeT (T.mkr 49 rfl) G_Order___init___X (hr.mono (by decide)) rfl (T.glo 15 rfl) b_Order___init___X (passAt tk3148) (pa_cons (pv 0) (pa_cons (pv 1) pa_nil)))) pss_nil)) (HdsA.as_ (i := 3) ⟨by rfl, by decide, Or.inl (T.glo 1 rfl)⟩ rfl rfl (fun a13148_0 oe3148_0 cls3148_0 d3148_0 pn3148_0 z3148_0 f3148_0 => (pss_cons (ps_set (i := 2) nd rfl (Or.inl rfl) (pe_lst (pa_cons (pe_callB (r := rIsZ K cls3148_0 d3148_0 a13148_0) (call_isZ z3148_0 f3148_0) (by rfl) (fr_isinstance T) (by decide +kernel) (pa_cons (pv 3) (pa_cons (pe_bltn (v := .ty "ValueError") (by rfl) (fr_ValueError T) (by decide +kernel) rfl) pa_nil))) (pa_cons (pe_callB (r := rIsZ K cls3148_0 d3148_0 a13148_0) (call_isZ z3148_0 f3148_0) (by rfl) (fr_isinstance T) (by decide +kernel) (pa_cons (pv 3) (pa_cons (pe_glob (v := .ref (He.ga K "BadSize")) (by rfl) (T.glo 2 rfl) rfl) pa_nil))) (pa_cons (pe_callB (r := rIsZ K cls3148_0 d3148_0 a13148_0) (call_isZ z3148_0 f3148_0) (by rfl) (fr_isinstance T) (by decide +kernel) (pa_cons (pv 3) (pa_cons (pe_glob (v := .ref (He.ga K "NotElement")) (by rfl) (T.glo 3 rfl) rfl) pa_nil))) (pa_cons (pe_callB (r := rIsZ K cls3148_0 d3148_0 a13148_0) (call_isZ z3148_0 f3148_0) (by rfl) (fr_isinstance T) (by decide +kernel) (pa_cons (pv 3) (pa_cons (pe_glob (v := .ref (He.ga K "Ring")) (by rfl) (T.glo 4 rfl) rfl) pa_nil))) (pa_cons (pe_callB (r := rIsZ K cls3148_0 d3148_0 a13148_0) (call_isZ z3148_0 f3148_0) (by rfl) (fr_isinstance T) (by decide +kernel) (pa_cons (pv 3) (pa_cons (pe_glob (v := .ref (He.ga K "NoJoin")) (by rfl) (T.glo 5 rfl) rfl) pa_nil))) (pa_cons (pe_callB (r := rIsZ K cls3148_0 d3148_0 a13148_0) (call_isZ z3148_0 f3148_0) (by rfl) (fr_isinstance T) (by decide +kernel) (pa_cons (pv 3) (pa_cons (pe_glob (v := .ref (He.ga K "NoMeet")) (by rfl) (T.glo 6 rfl) rfl) pa_nil))) pa_nil)))))))) pss_nil)) HdsA.nil)) (pss_cons (ps_ret (pv 2)) pss_nil))), ?_⟩
    obtain ⟨kinds_3139, hx3140, h⟩ := bindS h
    refine x_set w0 (EL.e (el_disp (eal_cons e_bl (eal_cons e_bl (eal_cons e_bl (eal_cons e_bl (eal_cons e_bl (eal_cons e_bl eal_nil)))))))) hx3140 ?_
    intro v3143 H3141 G3144 w3142 e3145 h3146
    have h3147 := Rep.mono _ e3145 hpairs0
    obtain ⟨s3182, hx3183, h⟩ := bindS h
    refine o_cut (fun σ' H' => ∃ v3184 : V, ∃ u3186 : Option V, ∃ G' : Hp, Wo G H [] G' H' [] ∧ Evl.Ex G3144 G' ∧ σ' = [some (V.int size0), some vpairs0, some v3184, u3186] ∧ (rL rB).r G' v3184 s3182) ?_ ?_
    · refine o_try ?_
      obtain ⟨r3189, hx3190, hx3183⟩ := bindS hx3183
      refine x_callX w3142 (ex_make (ea_cons (e_var (R := rI) (x := size0) rfl rfl) (ea_cons (e_var (R := (rL (rP rI rI))) (x := pairs0) rfl h3147) ea_nil))) (by first | (simp only [be1, bs1, ba1] at hx3190 ⊢; exact hx3190) | exact hx3190) ?_ ?_
      · intro e3191 he3192 d3193 H3194 G3195 w3196 e3197 xa3198
        subst he3192
        have hx3183 := sumL hx3183
        have h3199 := Rep.mono _ e3197 h3147
        have h3200 := Rep.mono _ e3197 h3146
        rcases bifO hx3183 with ⟨hc3201, hx3183⟩ | ⟨_, hx3183⟩
        · refine ⟨true, xa_ok (T.mo 36 rfl) hc3201, fun _ ax3202 naax3202 => ?_, fun z => nomatch z⟩
          obtain ⟨kinds_3203, hx3204, hx3183⟩ := bindS hx3183
          refine x_set w3196 (EL.e (el_disp (eal_cons (e_isZ rfl xa3198 (xs_ok (T.mo 29 rfl) hc3201).1 (fun _ h => h) (xkT_ok (T.mo 30 rfl) hc3201)) (eal_cons (e_isZ rfl xa3198 (xs_ok (T.mo 29 rfl) hc3201).1 (fun _ h => h) (xk_ok (T.mo 31 rfl) hc3201)) (eal_cons (e_isZ rfl xa3198 (xs_ok (T.mo 29 rfl) hc3201).1 (fun _ h => h) (xk_ok (T.mo 32 rfl) hc3201)) (eal_cons (e_isZ rfl xa3198 (xs_ok (T.mo 29 rfl) hc3201).1 (fun _ h => h) (xk_ok (T.mo 33 rfl) hc3201)) (eal_cons (e_isZ rfl xa3198 (xs_ok (T.mo 29 rfl) hc3201).1 (fun _ h => h) (xk_ok (T.mo 34 rfl) hc3201)) (eal_cons (e_isZ rfl xa3198 (xs_ok (T.mo 29 rfl) hc3201).1 (fun _ h => h) (xk_ok (T.mo 35 rfl) hc3201)) eal_nil)))))))) hx3204 ?_
          intro v3207 H3205 G3208 w3206 e3209 h3210
          have h3211 := Rep.mono _ e3209 h3199
          have h3212 := Rep.mono _ e3209 h3200
          have xa3213 := Xat.mono e3209 xa3198
          refine x_next ?_
          have hx3183 : kinds_3203 = s3182 := Option.some.inj hx3183
          subst hx3183
          exact ⟨v3207, (none), G3208, w3206, (e3197.trans e3209), rfl, h3210⟩
        · cases hx3183
      · intro x3214 he3215 H3216 G3217 w3218 e3219
        subst he3215
        have hx3183 := sumR hx3183
        have h3220 := Rep.mono _ e3219 h3147
        have h3221 := Rep.mono _ e3219 h3146
        refine x_next ?_
        have hx3183 : kinds_3139 = s3182 := Option.some.inj hx3183
        subst hx3183
        exact ⟨v3143, (none), G3217, w3218, e3219, rfl, h3221⟩
    · rintro σ' H3223 ⟨v3184, u3186, G3222, w3188, e3187, rfl, h3185⟩
      have h3224 := Rep.mono _ e3187 h3147
      obtain ⟨a3225, hx3226, h⟩ := bindS h
      have h : a3225 = r := Option.some.inj h
      subst h
      exact x_ret w3188 (e_var (R := (rL rB)) (x := s3182) rfl h3185) hx3226 (fun v9 H9 G9 w9 e9 r9 => k v9 H9 G9 w9.upE r9)
def m_law (script0 : (List Int)) : Option Bool :=
  (m__law_pot script0 >>= fun pot_here_3227 => (some (7 : Int) >>= fun x3236 => (m__law_masks pot_here_3227 x3236 >>= fun x3241 => (some (x3241.1.length : Int) >>= fun x3255 => (m__law_covers x3241.1 >>= fun x3260 => (m__law_spoilt x3241.2 x3255 x3260 >>= fun x3271 => (m__law_first_error x3271.1.1 x3271.1.2 >>= fun due_3285 => (some x3271.1.2 >>= fun handed_3296 => (m__law_outcome x3271.1.1 handed_3296 >>= fun got_3308 => (some ((!PyData.eqv got_3308 due_3285) || (!decide (handed_3296 = x3271.1.2))) >>= fun b3321 => bif b3321 then (some false >>= fun a3325 => some a3325) else ((((tailD got_3308 >>= fun xs3339 => lcS (fun x3332 => some true) (fun x3332 => m__law_int x3332) xs3339) >>= fun t3340 => some (t3340.all id)) >>= fun t3341 => some (!t3341)) >>= fun b3342 => bif b3342 then (some false >>= fun a3346 => some a3346) else (some ([("fine" : Str), ("size" : Str), ("element" : Str), ("ring" : Str), ("join" : Str), ("meet" : Str)]) >>= fun words_3350 => (mapS (fun x3367 => (ixD due_3285 0 >>= fun t3372 => some (PyData.eqv t3372 (PyData.str x3367)))) words_3350 >>= fun kinds_3374 => ((ixD due_3285 0 >>= fun t3389 => some (!PyData.eqv t3389 (PyData.str ("fine" : Str)))) >>= fun a3390 => some (0 : Int) >>= fun i3391 => setM kinds_3374 i3391 a3390 >>= fun kinds_3392 => ((m__law_classes x3271.1.1 handed_3296 >>= fun t3418 => some (decide (t3418 = kinds_3392))) >>= fun a3419 => some a3419)))))))))))))))
theorem sc_law : FnScope ["_law_script", "_law_pot_here", "_law_masks_here", "_law_due", "_law_handed", "_law_got", "_law_words", "_law_kinds", "_law_size", "_law_pairs", "_law_word", "_law_value"] ["_law_script"] (defScope s_law) := ⟨rfl, rfl, rfl, by decide +kernel, rfl, by decide +kernel, by decide +kernel⟩
theorem ok_law (T : Tx K mg) : ∃ fd, FunD K "law" "law" (defArgs s_law) (defBody s_law) (defScope s_law) [] [] (He.ga K "law") fd ∧ ∀ base : Heap, FnOk P w K mg base CX0 6 (He.ga K "law") fd ["_law_script"] (PF (aC (rScr K) aN) rB (fun i => m_law i.1)) := by
  obtain ⟨fd, F⟩ := T.def_ 22 rfl
  refine ⟨fd, F, fun base => ?_⟩
  obtain ⟨fd__law_pot, G__law_pot, b__law_pot, k__law_pot, g__law_pot⟩ := ok__law_pot (w := w) (base := base) T
  obtain ⟨fd__law_masks, G__law_masks, b__law_masks, k__law_masks, g__law_masks⟩ := ok__law_masks (w := w) (base := base) T
  obtain ⟨fd__law_spoilt, G__law_spoilt, b__law_spoilt, k__law_spoilt, g__law_spoilt⟩ := ok__law_spoilt (w := w) (base := base) T
  obtain ⟨fd__law_covers, G__law_covers, b__law_covers, k__law_covers, g__law_covers⟩ := ok__law_covers (w := w) (base := base) T
  obtain ⟨fd__law_first_error, G__law_first_error, b__law_first_error, k__law_first_error, g__law_first_error⟩ := ok__law_first_error (w := w) (base := base) T
  obtain ⟨fd__law_outcome, G__law_outcome, b__law_outcome, k__law_outcome, g__law_outcome⟩ := ok__law_outcome (w := w) (base := base) T
  obtain ⟨fd__law_int, G__law_int, b__law_int, k__law_int, g__law_int⟩ := ok__law_int (w := w) (base := base) T
  obtain ⟨fd__law_classes, G__law_classes, b__law_classes, k__law_classes, g__law_classes⟩ := ok__law_classes (w := w) (base := base) T
  have nd := sc_law.nd
  refine (F.ok sc_law (fun vs H Q E h => ?_) (fun cdv A outer s H vs Q E hr h => ?_))
  · obtain ⟨G, ⟨script0, ⟨⟩⟩, r, e0, ⟨vscript0, _, rfl, hscript0, rfl⟩, h, k⟩ := h
    rfl
  · obtain ⟨G, ⟨script0, ⟨⟩⟩, r, e0, ⟨vscript0, _, rfl, hscript0, rfl⟩, h, k⟩ := h
    have w0 := Wo.start e0
    have h : m_law script0 = some r := h
    unfold m_law at h
    refine ⟨_, PSs.nox (pss_cons (ps_set (i := 1) nd rfl (Or.inl rfl) (pe_call G__law_pot (hr.mono (by decide)) rfl g__law_pot k__law_pot b__law_pot .nil pass0 (pa_cons (pv 0) pa_nil))) (pss_cons (ps_set (i := 2) nd rfl (Or.inl rfl) (pe_call G__law_masks (hr.mono (by decide)) rfl g__law_masks k__law_masks b__law_masks .nil pass0 (pa_cons (pv 1) (pa_cons pe_int pa_nil)))) (pss_cons (ps_asg (pe_call G__law_spoilt (hr.mono (by decide)) rfl g__law_spoilt k__law_spoilt b__law_spoilt .nil pass0 (pa_cons (pv 1) (pa_cons (pe_callB (r := rLn K) call_len_seq (by rfl) (fr_len T) (by decide +kernel) (pa_cons (pv 2) pa_nil)) (pa_cons (pe_call G__law_covers (hr.mono (by decide)) rfl g__law_covers k__law_covers b__law_covers .nil pass0 (pa_cons (pv 2) pa_nil)) pa_nil)))) (pg_tup (by rfl) (pgs_cons (pg_name (i := 8) nd rfl (by first | exact Or.inl rfl | exact Or.inr rfl)) (pgs_cons (pg_name (i := 9) nd rfl (by first | exact Or.inl rfl | exact Or.inr rfl)) pgs_nil)))) (pss_cons (ps_set (i := 3) nd rfl (Or.inr rfl) (pe_call G__law_first_error (hr.mono (by decide)) rfl g__law_first_error k__law_first_error b__law_first_error .nil pass0 (pa_cons (pv 8) (pa_cons (pv 9) pa_nil)))) (pss_cons (ps_set (i := 4) nd rfl (Or.inl rfl) (pe_callTy (r := rLs K) call_list_of (by rfl) (fr_list T) (by decide +kernel) (pa_cons (pv 9) pa_nil))) (pss_cons (ps_set (i := 5) nd rfl (Or.inl rfl) (pe_call G__law_outcome (hr.mono (by decide)) rfl g__law_outcome k__law_outcome b__law_outcome .nil pass0 (pa_cons (pv 8) (pa_cons (pv 4) pa_nil)))) (pss_cons (ps_if (PW.pt (pw_or (pt_cmpR (r := rNeP K) (op_neP hr.units) (pv 5) (pv 3) (nomark _)) (pw_or1 (pt_cmpR (r := rNeP K) (op_neP hr.units) (pv 4) (pv 9) (nomark _))))) (pss_cons (ps_ret pe_bl) pss_nil) pss_nil) (pss_cons (ps_if (pt_not (pt_val (pe_callB (r := rAll K) (cr_all rfl) (by rfl) (fr_all T) (by decide +kernel) (pa_cons (pe_lc (own := [("_law_value", 11)]) (by rfl) nd (show L2.PI _ _ _ (iTup K _) from pi_tup (pe_slice (r := rSlT K) sl_tup (pv 5) (po_some pe_int) po_none)) (blkOk_by (by kernel_rfl)) (fun _ _ _ _ _ => pg_name (i := 11) nd rfl (by first | exact Or.inl rfl | exact Or.inr rfl)) (fun _ _ _ _ _ => pts_nil) (fun _ _ _ _ _ => (pe_call G__law_int (hr.mono (by decide)) rfl g__law_int k__law_int b__law_int .nil pass0 (pa_cons (pv 11) pa_nil)))) pa_nil)))) (pss_cons (ps_ret pe_bl) pss_nil) pss_nil) (pss_cons (ps_set (i := 6) nd rfl (Or.inl rfl) (pe_lst (pa_cons pe_str (pa_cons pe_str (pa_cons pe_str (pa_cons pe_str (pa_cons pe_str (pa_cons pe_str pa_nil)))))))) (pss_cons (ps_setLc (i := 7) (own := [("_law_word", 10)]) (by rfl) nd rfl rfl (sw_true rfl rfl rfl (by decide +kernel)) (show L2.PI _ _ _ (iList K _) from pi_list (pv 6)) (blkOk_by (by kernel_rfl)) (fun _ _ _ _ _ => pg_name (i := 10) nd rfl (by first | exact Or.inl rfl | exact Or.inr rfl)) (fun _ _ _ _ _ => pts_nil) (fun _ _ _ _ _ => (pe_cmpR (r := rEqP K) (op_eqP hr.units) (pe_ix (r := rIxT K) ix_tup (pv 3) pe_int (fun _ _ => rfl)) (pv 10) (nomark _)))) (pss_cons (ps_asg (pe_cmpR (r := rNeP K) (op_neP hr.units) (pe_ix (r := rIxT K) ix_tup (pv 3) pe_int (fun _ _ => rfl)) pe_str (nomark _)) (pg_sub (pv 7) pe_int set_list)) (pss_cons (ps_ret (pe_cmpR (r := rEqP K) (op_eqP hr.units) (pe_call G__law_classes (hr.mono (by decide)) rfl g__law_classes k__law_classes b__law_classes .nil pass0 (pa_cons (pv 8) (pa_cons (pv 4) pa_nil))) (pv 7) (nomark _))) pss_nil)))))))))))), ?_⟩
    obtain ⟨pot_here_3227, hx3228, h⟩ := bindS h
    refine x_setL w0 (el_call (ea_cons (e_var (R := (rScr K)) (x := script0) rfl hscript0) ea_nil)) (by first | (simp only [be1, bs1, ba1] at hx3228 ⊢; exact hx3228) | exact hx3228) ?_
    intro p3231 H3229 G3232 n3233 w3230 e3234
    have h3235 := Rep.mono _ e3234 hscript0
    refine x_setO ?_
    refine o_call ?_
    refine o_cons ?_
    refine o_var rfl ?_
    refine o_cons ?_
    obtain ⟨x3236, hx3237, h⟩ := bindS h
    refine c_i w3230 e_int hx3237 ?_
    intro H3238 w3239
    refine o_nil ?_
    obtain ⟨x3241, hx3242, h⟩ := bindS h
    refine c_p1l (i := 0) (j := (x3236, ())) w3239 rfl ⟨_, _, rfl, rfl, rfl⟩ hx3242 ?_
    intro p3245 H3243 G3246 n3247 w3244 e3248
    have h3249 := Rep.mono _ e3248 h3235
    have w3244 : Wo G H [] G3246 H3243 [(p3245, cL rI x3241.1), (p3231, cL rI x3241.2)] := w3244
    obtain ⟨G3250, w3251, e3252, h3253⟩ := w3244.freezeAt (i := 0) rfl n3247
    have h3254 := Rep.mono _ e3252 h3249
    have w3251 : Wo G H [] G3250 H3243 [(p3231, cL rI x3241.2)] := w3251
    refine x_asgO ?_
    refine o_call ?_
    refine o_cons ?_
    refine o_var rfl ?_
    refine o_cons ?_
    obtain ⟨x3255, hx3256, h⟩ := bindS h
    refine c_i w3251 (e_cb rc_lenL (ea_cons (e_var (R := (rL rI)) (x := x3241.1) rfl h3253) ea_nil)) hx3256 ?_
    intro H3257 w3258
    refine o_cons ?_
    obtain ⟨x3260, hx3261, h⟩ := bindS h
    refine c_l w3258 (el_call (ea_cons (e_var (R := (rL rI)) (x := x3241.1) rfl h3253) ea_nil)) (by first | (simp only [be1, bs1, ba1] at hx3261 ⊢; exact hx3261) | exact hx3261) ?_
    intro p3262 H3263 G3264 n3265 w3266 e3267
    have h3268 := Rep.mono _ e3267 h3254
    have h3269 := Rep.mono _ e3267 h3253
    have w3266 : Wo G H [] G3264 H3263 [(p3262, cL (rP rI rI) x3260), (p3231, cL rI x3241.2)] := w3266
    refine o_nil ?_
    obtain ⟨x3271, hx3272, h⟩ := bindS h
    refine c_pmo (i := (p3231, x3255, p3262, ())) 0 w3266 n3265 rfl ⟨_, _, rfl, rfl, _, _, rfl, rfl, _, _, rfl, rfl, rfl⟩ hx3272 ?_
    intro u3273 H3274 G3275 w3276 e3277 r3278
    have h3279 := Rep.mono _ e3277 h3268
    have h3280 := Rep.mono _ e3277 h3269
    have w3276 : Wo G H [] G3275 H3274 [(p3231, cL rI x3271.2)] := w3276
    refine o_unpk r3278 w3276.ex ?_
    intro v3281 v3282 h3283 h3284
    cases h3283
    refine o_slots (σ' := [some vscript0, some (V.ref p3231), some (V.ref p3245), none, none, none, none, none, some (V.int x3271.1.1), some v3282, none, none]) rfl ?_
    obtain ⟨due_3285, hx3286, h⟩ := bindS h
    refine x_set w3276 (e_call (ea_cons (e_var (R := rI) (x := x3271.1.1) rfl rfl) (ea_cons (e_var (R := (rL (rP rI rI))) (x := x3271.1.2) rfl h3284) ea_nil))) (by first | (simp only [be1, bs1, ba1] at hx3286 ⊢; exact hx3286) | exact hx3286) ?_
    intro v3289 H3287 G3290 w3288 e3291 h3292
    have h3293 := Rep.mono _ e3291 h3279
    have h3294 := Rep.mono _ e3291 h3280
    have h3295 := Rep.mono _ e3291 h3284
    obtain ⟨handed_3296, hx3297, h⟩ := bindS h
    refine x_set w3288 (EL.e (el_cb rc_listL (ea_cons (e_var (R := (rL (rP rI rI))) (x := x3271.1.2) rfl h3295) ea_nil))) hx3297 ?_
    intro v3300 H3298 G3301 w3299 e3302 h3303
    have h3304 := Rep.mono _ e3302 h3293
    have h3305 := Rep.mono _ e3302 h3294
    have h3306 := Rep.mono _ e3302 h3295
    have h3307 := Rep.mono _ e3302 h3292
    obtain ⟨got_3308, hx3309, h⟩ := bindS h
    refine x_set w3299 (e_call (ea_cons (e_var (R := rI) (x := x3271.1.1) rfl rfl) (ea_cons (e_var (R := (rL (rP rI rI))) (x := handed_3296) rfl h3303) ea_nil))) (by first | (simp only [be1, bs1, ba1] at hx3309 ⊢; exact hx3309) | exact hx3309) ?_
    intro v3312 H3310 G3313 w3311 e3314 h3315
    have h3316 := Rep.mono _ e3314 h3304
    have h3317 := Rep.mono _ e3314 h3305
    have h3318 := Rep.mono _ e3314 h3306
    have h3319 := Rep.mono _ e3314 h3307
    have h3320 := Rep.mono _ e3314 h3303
    refine o_slots (σ' := [some vscript0, some (V.ref p3231), some (V.ref p3245), some v3289, some v3300, some v3312, none, none, some (V.int x3271.1.1), some v3282, none, none]) rfl ?_
    obtain ⟨b3321, hx3322, h⟩ := bindS h
    refine x_if w3311 (et_orP (et_T (e_op rr_neDD (e_var (R := (rD K)) (x := got_3308) rfl (Rep.mono _ w3311.ex h3315)) (e_var (R := (rD K)) (x := due_3285) rfl (Rep.mono _ w3311.ex h3319)))) (et_T (e_op (rr_neD (dtL (dtP dtI dtI)) (by decide)) (e_var (R := (rL (rP rI rI))) (x := handed_3296) rfl (Rep.mono _ w3311.ex h3320)) (e_var (R := (rL (rP rI rI))) (x := x3271.1.2) rfl (Rep.mono _ w3311.ex h3318))))) hx3322 ?_ ?_
    · intro hbb3321 H3323 w3324
      subst hbb3321
      have h := bifT h
      obtain ⟨a3325, hx3326, h⟩ := bindS h
      have h : a3325 = r := Option.some.inj h
      subst h
      exact x_ret w3324 e_bl hx3326 (fun v9 H9 G9 w9 e9 r9 => k v9 H9 G9 w9.upE r9)
    · intro hbb3321 H3327 w3328
      subst hbb3321
      have h := bifF h
      refine x_next ?_
      obtain ⟨b3342, hx3343, h⟩ := bindS h
      refine x_if w3328 (et_not (et_B (e_cb rc_all (ea_cons (EL.e (el_lc1 (src_tup (e_slDI (e_var (R := (rD K)) (x := got_3308) rfl (Rep.mono _ w3328.ex h3315)))) (tg_name (R := rI) (j := 11)) (by rintro _ _ _ ⟨_, _, rfl⟩; rfl) (fun x3332 s3336 G3337 W3338 eG3329 eW3330 eX3331 ⟨v3333, h3334, q3335⟩ => by subst q3335; cases h3334; exact et_yes) (fun x3332 s3336 G3337 W3338 eG3329 eW3330 eX3331 ⟨v3333, h3334, q3335⟩ => by subst q3335; cases h3334; exact (e_call (ea_cons (e_var (R := rI) (x := x3332) rfl rfl) ea_nil))))) ea_nil)))) (by first | (simp only [be1, bs1, ba1] at hx3343 ⊢; exact hx3343) | exact hx3343) ?_ ?_
      · intro hbb3342 H3344 w3345
        subst hbb3342
        have h := bifT h
        obtain ⟨a3346, hx3347, h⟩ := bindS h
        have h : a3346 = r := Option.some.inj h
        subst h
        exact x_ret w3345 e_bl hx3347 (fun v9 H9 G9 w9 e9 r9 => k v9 H9 G9 w9.upE r9)
      · intro hbb3342 H3348 w3349
        subst hbb3342
        have h := bifF h
        refine x_next ?_
        obtain ⟨words_3350, hx3351, h⟩ := bindS h
        refine x_set w3349 (EL.e (el_disp (eal_cons e_str (eal_cons e_str (eal_cons e_str (eal_cons e_str (eal_cons e_str (eal_cons e_str eal_nil)))))))) hx3351 ?_
        intro v3354 H3352 G3355 w3353 e3356 h3357
        have h3358 := Rep.mono _ e3356 h3316
        have h3359 := Rep.mono _ e3356 h3317
        have h3360 := Rep.mono _ e3356 h3318
        have h3361 := Rep.mono _ e3356 h3319
        have h3362 := Rep.mono _ e3356 h3320
        have h3363 := Rep.mono _ e3356 h3315
        obtain ⟨kinds_3374, hx3375, h⟩ := bindS h
        refine x_setL w3353 (el_map (el_lcL (j := 10) (e_var (R := (rL rS)) (x := words_3350) rfl h3357) (fun _ => rfl) (fun _ _ _ _ _ _ _ _ => et_yes) (fun x3367 v3370 G3368 W3369 eG3364 eW3365 eX3366 h3371 => (e_op rr_eqDD (e_ixD 0 (by decide) (e_var (R := (rD K)) (x := due_3285) rfl (Rep.mono _ eG3364 h3361))) (e_toD (K := K) (e_var (R := rS) (x := x3367) rfl h3371) dtS (by decide)))))) (by first | (simp only [be1, bs1, ba1] at hx3375 ⊢; exact hx3375) | exact hx3375) ?_
        intro p3378 H3376 G3379 n3380 w3377 e3381
        have h3382 := Rep.mono _ e3381 h3358
        have h3383 := Rep.mono _ e3381 h3359
        have h3384 := Rep.mono _ e3381 h3360
        have h3385 := Rep.mono _ e3381 h3361
        have h3386 := Rep.mono _ e3381 h3362
        have h3387 := Rep.mono _ e3381 h3363
        have h3388 := Rep.mono _ e3381 h3357
        obtain ⟨a3390, hx3393, h⟩ := bindS h
        obtain ⟨i3391, hx3394, h⟩ := bindS h
        obtain ⟨kinds_3392, hx3395, h⟩ := bindS h
        refine x_setIx (j := 0) w3377 rfl rfl (e_op rr_neDD (e_ixD 0 (by decide) (e_var (R := (rD K)) (x := due_3285) rfl h3385)) (e_toD (K := K) e_str dtS (by decide))) (by first | (simp only [be1, bs1, ba1] at hx3393 ⊢; exact hx3393) | exact hx3393) e_int (by first | (simp only [be1, bs1, ba1] at hx3394 ⊢; exact hx3394) | exact hx3394) hx3395 ?_
        intro H3396 G3397 w3398 e3399
        have h3400 := Rep.mono _ e3399 h3382
        have h3401 := Rep.mono _ e3399 h3383
        have h3402 := Rep.mono _ e3399 h3384
        have h3403 := Rep.mono _ e3399 h3385
        have h3404 := Rep.mono _ e3399 h3386
        have h3405 := Rep.mono _ e3399 h3387
        have h3406 := Rep.mono _ e3399 h3388
        have w3398 : Wo G H [] G3397 H3396 [(p3378, cL rB kinds_3392), (p3231, cL rI x3271.2)] := w3398
        obtain ⟨G3407, w3408, e3409, h3410⟩ := w3398.freezeAt (i := 0) rfl n3380
        have h3411 := Rep.mono _ e3409 h3400
        have h3412 := Rep.mono _ e3409 h3401
        have h3413 := Rep.mono _ e3409 h3402
        have h3414 := Rep.mono _ e3409 h3403
        have h3415 := Rep.mono _ e3409 h3404
        have h3416 := Rep.mono _ e3409 h3405
        have h3417 := Rep.mono _ e3409 h3406
        have w3408 : Wo G H [] G3407 H3396 [(p3231, cL rI x3271.2)] := w3408
        obtain ⟨a3419, hx3420, h⟩ := bindS h
        have h : a3419 = r := Option.some.inj h
        subst h
        exact x_ret w3408 (e_op (rr_eqD (dtL dtB) (by decide)) (e_call (ea_cons (e_var (R := rI) (x := x3271.1.1) rfl rfl) (ea_cons (e_var (R := (rL (rP rI rI))) (x := handed_3296) rfl h3415) ea_nil))) (e_var (R := (rL rB)) (x := kinds_3392) rfl h3410)) (by first | (simp only [be1, bs1, ba1] at hx3420 ⊢; exact hx3420) | exact hx3420) (fun v9 H9 G9 w9 e9 r9 => k v9 H9 G9 w9.upE r9)
end
end My
namespace My
open PySem L2 Sim
section
variable {α β γ σ ρ : Type}
def tab (n : Nat) (f : Nat → α) : List α := (List.range n).map f
theorem tab_len {n : Nat} {f : Nat → α} : (tab n f).length = n := by simp [tab]
theorem tab_get {n : Nat} {f : Nat → α} {i : Nat} (h : i < n) : (tab n f)[i]? = some (f i) := by
  simp [tab, List.getElem?_map, List.getElem?_range h]
theorem tab_mem {n : Nat} {f : Nat → α} {x : α} : x ∈ tab n f ↔ ∃ i, i < n ∧ f i = x := by simp [tab]
theorem tab_congr {n : Nat} {f g : Nat → α} (h : ∀ i < n, f i = g i) : tab n f = tab n g :=
  List.map_congr_left fun i hi => h i (List.mem_range.mp hi)
theorem ixN_nat {n i : Nat} (h : i < n) : ixN n (i : Int) = some i := by
  unfold ixN
  rw [if_pos (by omega), if_pos (by omega)]
  rfl
theorem atI_nat {xs : List α} {i : Nat} (h : i < xs.length) : atI xs (i : Int) = some xs[i] := by
  unfold atI
  rw [ixN_nat h]
  exact List.getElem?_eq_getElem h
theorem atI_tab {n : Nat} {f : Nat → α} {i : Nat} (h : i < n) : atI (tab n f) (i : Int) = some (f i) := by
  unfold atI
  rw [ixN_nat (by rw [tab_len]; exact h)]
  exact tab_get h
theorem rngM0 {n : Nat} (h : n ≤ 100000) : rngM 0 (n : Int) = some (tab n fun i => (i : Int)) := by
  unfold rngM
  rw [if_pos (by omega)]
  unfold rng tab
  simp
theorem rngM1 {i n : Nat} (h : n ≤ 100000) (h' : i ≤ 100000) : rngM ((i : Int)) (n : Int) = some (tab (n - i) fun k => ((i + k : Nat) : Int)) := by
  unfold rngM
  rw [if_pos (by omega)]
  unfold rng tab
  have : ((n : Int) - (i : Int)).toNat = n - i := by omega
  rw [this]
  simp
theorem mapO_map {f : β → Option γ} {a : α → β} {g : α → γ} : ∀ {xs : List α}, (∀ x ∈ xs, f (a x) = some (g x)) → mapO f (xs.map a) = some (xs.map g)
  | [], _ => rfl
  | x :: xs, h => by
    show (f (a x) >>= fun y => mapO f (xs.map a) >>= fun ys => some (y :: ys)) = _
    rw [h x (List.mem_cons_self ..), mapO_map (fun y hy => h y (List.mem_cons_of_mem _ hy))]
    rfl
theorem lcM_map {p' : β → Option Bool} {f : β → Option γ} {a : α → β} {p : α → Bool} {g : α → γ} : ∀ {xs : List α}, (∀ x ∈ xs, p' (a x) = some (p x)) → (∀ x ∈ xs, f (a x) = some (g x)) →
    lcM p' f (xs.map a) = some ((xs.filter p).map g)
  | [], _, _ => rfl
  | x :: xs, h, h' => by
    show (p' (a x) >>= fun b => bif b then f (a x) >>= fun y => lcM p' f (xs.map a) >>= fun ys => some (y :: ys) else lcM p' f (xs.map a)) = _
    rw [h x (List.mem_cons_self ..), lcM_map (fun y hy => h y (List.mem_cons_of_mem _ hy)) (fun y hy => h' y (List.mem_cons_of_mem _ hy)), h' x (List.mem_cons_self ..)]
    cases e : p x <;> simp [List.filter_cons, e]
theorem sz_t {n : Nat} (h : n < 100000) : sz n = true := by simp [sz, h]
theorem mapS_tab {n : Nat} {a : Nat → β} {f : β → Option γ} {g : Nat → γ} (hn : n < 100000) (h : ∀ i < n, f (a i) = some (g i)) : mapS f (tab n a) = some (tab n g) := by
  unfold mapS
  rw [tab_len, sz_t hn]
  exact mapO_map fun x hx => h x (List.mem_range.mp hx)
theorem mapS_map {xs : List α} {f : α → Option β} {g : α → β} (hn : xs.length < 100000) (h : ∀ x ∈ xs, f x = some (g x)) : mapS f xs = some (xs.map g) := by
  unfold mapS
  rw [sz_t hn]
  have := mapO_map (f := f) (a := id) (g := g) (xs := xs) h
  rwa [List.map_id] at this
theorem lcS_tab {n : Nat} {a : Nat → β} {p' : β → Option Bool} {f : β → Option γ} {p : Nat → Bool} {g : Nat → γ} (hn : n < 100000) (h : ∀ i < n, p' (a i) = some (p i)) (h' : ∀ i < n, f (a i) = some (g i)) :
    lcS p' f (tab n a) = some (((List.range n).filter p).map g) := by
  unfold lcS
  rw [tab_len, sz_t hn]
  exact lcM_map (fun x hx => h x (List.mem_range.mp hx)) (fun x hx => h' x (List.mem_range.mp hx))
theorem lcS_map {xs : List α} {a : α → β} {p' : β → Option Bool} {f : β → Option γ} {p : α → Bool} {g : α → γ} (hn : xs.length < 100000) (h : ∀ x ∈ xs, p' (a x) = some (p x)) (h' : ∀ x ∈ xs, f (a x) = some (g x)) :
    lcS p' f (xs.map a) = some ((xs.filter p).map g) := by
  unfold lcS
  rw [List.length_map, sz_t hn]
  exact lcM_map h h'
theorem forL_nx {body : α → Unit → Option (Stp Unit ρ)} : ∀ {xs : List α}, (∀ x ∈ xs, body x () = some (.nx ())) → forL body xs () = some (.inl ())
  | [], _ => rfl
  | x :: xs, h => by
    show (body x () >>= stpK (forL body xs)) = _
    rw [h x (List.mem_cons_self ..)]
    exact forL_nx fun y hy => h y (List.mem_cons_of_mem _ hy)
theorem forL_find {body : β → Unit → Option (Stp Unit ρ)} {a : α → β} {p : α → Bool} {g : α → ρ} : ∀ {xs : List α}, (∀ x ∈ xs, body (a x) () = some (bif p x then .rt (g x) else .nx ())) →
    forL body (xs.map a) () = some (match xs.find? p with | some x => .inr (g x) | none => .inl ())
  | [], _ => rfl
  | x :: xs, h => by
    show (body (a x) () >>= stpK (forL body (xs.map a))) = _
    rw [h x (List.mem_cons_self ..)]
    cases e : p x
    · rw [List.find?_cons, e]
      exact forL_find fun y hy => h y (List.mem_cons_of_mem _ hy)
    · rw [List.find?_cons, e]; rfl
/-- a loop that keeps something -/
theorem forS_keep {body : α → σ → Option σ} {I : Nat → σ → Prop} : ∀ {xs : List α} {k : Nat} {s : σ}, I k s → (∀ x ∈ xs, ∀ j s, k ≤ j → j < k + xs.length → I j s → ∃ s', body x s = some s' ∧ I (j + 1) s') →
    ∃ s', forS body xs s = some s' ∧ I (k + xs.length) s'
  | [], k, s, h, _ => ⟨s, rfl, h⟩
  | x :: xs, k, s, h, hs => by
    obtain ⟨s1, e1, h1⟩ := hs x (List.mem_cons_self ..) k s (Nat.le_refl _) (by simp) h
    obtain ⟨s2, e2, h2⟩ := forS_keep (xs := xs) (k := k + 1) h1 fun y hy j t hj hj' => hs y (List.mem_cons_of_mem _ hy) j t (by omega) (by simp; omega)
    refine ⟨s2, ?_, ?_⟩
    · show (body x s >>= forS body xs) = _
      rw [e1]; exact e2
    · have : k + (x :: xs).length = k + 1 + xs.length := by simp; omega
      rw [this]; exact h2
/-- a loop whose k-th state is told -/
theorem forS_tab {body : α → σ → Option σ} {a : Nat → α} {S : Nat → σ} {n : Nat} (h : ∀ i < n, body (a i) (S i) = some (S (i + 1))) : forS body (tab n a) (S 0) = some (S n) := by
  suffices h' : ∀ m k, k + m = n → forS body ((List.range' k m).map a) (S k) = some (S n) by
    have := h' n 0 (by omega)
    rw [← List.range_eq_range'] at this
    exact this
  intro m
  induction m with
  | zero =>
    intro k hk
    have : k = n := by omega
    subst this
    rfl
  | succ m ih =>
    intro k hk
    show (body (a k) (S k) >>= forS body ((List.range' (k + 1) m).map a)) = _
    rw [h k (by omega)]
    exact ih (k + 1) (by omega)
end

abbrev tab2 (n : Nat) (R : Nat → Nat → α) : List (List α) := tab n fun a => tab n fun b => R a b
theorem atI2 {n : Nat} {R : Nat → Nat → α} {a b : Nat} (ha : a < n) (hb : b < n) : (atI (tab2 n R) (a : Int) >>= fun t => atI t (b : Int)) = some (R a b) := by
  rw [atI_tab ha]
  exact atI_tab hb
theorem tab2_congr {n : Nat} {R S : Nat → Nat → α} (h : ∀ a < n, ∀ b < n, R a b = S a b) : tab2 n R = tab2 n S :=
  tab_congr fun a ha => tab_congr fun b hb => h a ha b hb
theorem mul_small {a b : Nat} (ha : a ≤ 12) : mulM (a : Int) (b : Int) = some (((a * b : Nat)) : Int) := by
  unfold mulM
  rw [if_pos (Or.inl (by omega))]
  simp
theorem InR.tail {n : Nat} {p} {ps : List (Int × Int)} (h : InR n (p :: ps)) : InR n ps := fun q hq => h q (List.mem_cons_of_mem _ hq)
theorem ix_lt {n a b : Nat} (ha : a < n) (hb : b < n) : a * n + b < n * n := by
  have : (a + 1) * n ≤ n * n := Nat.mul_le_mul_right n ha
  rw [Nat.succ_mul] at this
  omega
theorem ix_inj {n a b c d : Nat} (hb : b < n) (hd : d < n) (h : a * n + b = c * n + d) : a = c ∧ b = d := by
  have e : (a * n + b) / n = (c * n + d) / n := by rw [h]
  have e2 : (a * n + b) % n = (c * n + d) % n := by rw [h]
  rw [Nat.mul_comm a n, Nat.mul_comm c n, Nat.mul_add_div (by omega), Nat.mul_add_div (by omega), Nat.div_eq_of_lt hb, Nat.div_eq_of_lt hd] at e
  rw [Nat.mul_comm a n, Nat.mul_comm c n, Nat.mul_add_mod, Nat.mul_add_mod, Nat.mod_eq_of_lt hb, Nat.mod_eq_of_lt hd] at e2
  exact ⟨by omega, e2⟩
/-! pop -/
section
open PyProof.Rows
theorem ixN_popAt {n k : Nat} (h : k < n) : seqIndex? (k : Int) n = some k := by
  unfold seqIndex?
  have : ¬ ((k : Int) < 0) := by omega
  simp only [this, if_false]
  have h2 : (decide (0 ≤ (k : Int)) && decide ((k : Int) < (n : Int))) = true := by simp; exact h
  rw [if_pos h2]
  rfl
theorem perm_erase {α : Type} : ∀ {xs : List α} {k : Nat} (h : k < xs.length), xs.Perm (xs[k] :: xs.eraseIdx k)
  | x :: xs, 0, _ => .refl _
  | x :: xs, k + 1, h => by
    have h : k < xs.length := by simpa using h
    exact ((perm_erase h).cons x).trans (.swap ..)
/-- a list drawn out in another order -/
theorem popAt_eq {α : Type} {xs : List α} {k : Nat} (h : k < xs.length) (h2 : xs.length < 100000) : popAtM xs (k : Int) = some (xs[k], xs.eraseIdx k) := by
  unfold popAtM
  rw [if_pos (by omega), ixN_popAt h]
  simp only [Option.bind_eq_bind, bs]
  rw [List.getElem?_eq_getElem h]
  rfl
end
end My

namespace My
open PySem L2 Sim
theorem cl_b1 {n : Nat} (hn : n ≤ 12) : ∀ {ps : List (Int × Int)} {s : List Bool} {D : Nat → Nat → Bool}, InR n ps → s.length = n * n → (∀ a < n, ∀ b < n, s[a * n + b]? = some (D a b)) →
    ∃ s', forS (m_closure_b1 (n : Int)) ps s = some s' ∧ s'.length = n * n ∧ ∀ a < n, ∀ b < n, s'[a * n + b]? = some (D a b || decide (((a : Int), (b : Int)) ∈ ps))
  | [], s, D, _, hl, hs => ⟨s, rfl, hl, fun a ha b hb => by simp [hs a ha b hb]⟩
  | p :: ps, s, D, hp, hl, hs => by
    obtain ⟨c, d, hc, hd, rfl⟩ := hp _ (List.mem_cons_self ..)
    have e1 : m_closure_b1 (n : Int) ((c : Int), (d : Int)) s = some (s.set (c * n + d) true) := by
      simp only [m_closure_b1, mul_small (show c ≤ 12 by omega), Option.bind_eq_bind, Option.bind_some]
      rw [show ((c * n : Nat) : Int) + (d : Int) = ((c * n + d : Nat) : Int) by simp]
      unfold setM
      rw [ixN_nat (by rw [hl]; exact ix_lt hc hd)]
      rfl
    obtain ⟨s', e2, h1, h2⟩ := cl_b1 hn (ps := ps) (s := s.set (c * n + d) true) (D := fun a b => D a b || decide (((a : Int), (b : Int)) = ((c : Int), (d : Int)))) hp.tail (by rw [List.length_set]; exact hl) (by
      intro a ha b hb
      rw [List.getElem?_set]
      by_cases e : c * n + d = a * n + b
      · obtain ⟨h1, h2⟩ := ix_inj hd hb e
        subst h1; subst h2
        simp [hl, ix_lt hc hd]
      · rw [if_neg e, hs a ha b hb]
        have : ¬ (((a : Int), (b : Int)) = ((c : Int), (d : Int))) := by
          intro q
          rw [Prod.mk.injEq] at q
          apply e
          rw [show a = c by omega, show b = d by omega]
        simp [this])
    refine ⟨s', ?_, h1, fun a ha b hb => ?_⟩
    · show (m_closure_b1 (n : Int) ((c : Int), (d : Int)) s >>= forS (m_closure_b1 (n : Int)) ps) = _
      rw [e1]; exact e2
    · rw [h2 a ha b hb]
      simp [List.mem_cons, Bool.or_assoc]
def wst (m : Nat) (R : Nat → Nat → Bool) (a b : Nat) : Bool := R a b || (R a m && R m b)
def wsh (R : Nat → Nat → Bool) : Nat → Nat → Nat → Bool
  | 0 => R
  | k + 1 => wst k (wsh R k)
theorem cl_b2 {n m : Nat} {R : Nat → Nat → Bool} (hn : n ≤ 12) (hm : m < n) : m_closure_b2 (n : Int) (m : Int) (tab2 n R) = some (tab2 n (wst m R)) := by
  unfold m_closure_b2
  rw [rngM0 (by omega)]
  simp only [Option.bind_eq_bind, Option.bind_some]
  rw [mapS_tab (g := fun a => tab n fun b => wst m R a b) (by omega)]
  · rfl
  · intro a ha
    rw [mapS_tab (g := fun b => wst m R a b) (by omega)]
    intro b hb
    have h1 := atI2 (R := R) ha hb
    have h2 := atI2 (R := R) ha hm
    have h3 := atI2 (R := R) hm hb
    simp only [Option.bind_eq_bind] at h1 h2 h3
    rw [h1, h2, h3]
    unfold orO andO wst
    cases R a b <;> cases R a m <;> rfl
theorem m_closure_eq {n : Nat} {ps : List (Int × Int)} (hn : n ≤ 12) (hp : InR n ps) :
    m_closure (n : Int) ps = some (tab2 n (wsh (fun a b => a == b || decide (((a : Int), (b : Int)) ∈ ps)) n)) := by
  unfold m_closure
  rw [mul_small hn]
  simp only [Option.bind_eq_bind, Option.bind_some]
  have hnn : n * n ≤ 144 := Nat.mul_le_mul hn hn
  rw [rngM0 (by omega)]
  simp only [Option.bind_some]
  rw [mapS_tab (f := fun _ => some false) (g := fun _ => false) (by omega) (fun _ _ => rfl)]
  simp only [Option.bind_some]
  obtain ⟨s, e, h1, h2⟩ := cl_b1 hn (s := tab (n * n) fun _ => false) (D := fun _ _ => false) hp tab_len (fun a ha b hb => tab_get (ix_lt ha hb))
  rw [e]
  simp only [Option.bind_some]
  rw [rngM0 (by omega)]
  simp only [Option.bind_some]
  rw [mapS_tab (g := fun a => tab n fun b => (a == b || decide (((a : Int), (b : Int)) ∈ ps))) (by omega)]
  · simp only [Option.bind_some]
    have hf := forS_tab (body := m_closure_b2 (n : Int)) (a := fun i : Nat => (i : Int)) (n := n) (S := fun k => tab2 n (wsh (fun a b => a == b || decide (((a : Int), (b : Int)) ∈ ps)) k)) (fun i hi => cl_b2 hn hi)
    exact congrArg (fun z => z.bind some) hf
  · intro a ha
    rw [mapS_tab (g := fun b => (a == b || decide (((a : Int), (b : Int)) ∈ ps))) (by omega)]
    intro b hb
    rw [mul_small (by omega)]
    simp only [Option.bind_some]
    rw [show ((a * n : Nat) : Int) + (b : Int) = ((a * n + b : Nat) : Int) by simp]
    have : atI s ((a * n + b : Nat) : Int) = some (decide (((a : Int), (b : Int)) ∈ ps)) := by
      unfold atI
      rw [ixN_nat (by rw [h1]; exact ix_lt ha hb)]
      have := h2 a ha b hb
      simpa using this
    rw [this]
    unfold orO
    by_cases e : a = b
    · subst e; simp
    · have : ((a : Int) == (b : Int)) = false := by simp; omega
      rw [this]; simp [e]

/-! ### Warshall -/
/-- every two have a least above -/
structure Lub (n : Nat) (le : Nat → Nat → Bool) (j : Nat → Nat → Nat) : Prop where
  lt : ∀ a b, a < n → b < n → j a b < n
  l : ∀ a b, a < n → b < n → le a (j a b) = true
  r : ∀ a b, a < n → b < n → le b (j a b) = true
  le : ∀ a b c, a < n → b < n → c < n → le a c = true → le b c = true → le (j a b) c = true
theorem turned_eq {n : Nat} {le : Nat → Nat → Bool} (hn : n ≤ 12) : m_turned (tab2 n le) = some (tab2 n fun a b => le b a) := by
  unfold m_turned
  rw [tab_len, rngM0 (by omega)]
  simp only [Option.bind_eq_bind, Option.bind_some]
  rw [mapS_tab (g := fun a => tab n fun b => le b a) (by omega)]
  · rfl
  · intro a ha
    rw [mapS_tab (g := fun b => le b a) (by omega)]
    intro b hb
    exact atI2 hb ha
theorem maxL_some : ∀ {xs : List Int}, xs ≠ [] → ∃ m, maxL xs = some m
  | [], h => absurd rfl h
  | [x], _ => ⟨x, rfl⟩
  | x :: y :: ys, _ => by
    obtain ⟨m, h⟩ := maxL_some (xs := y :: ys) (by simp)
    exact ⟨_, by unfold maxL; rw [h]; rfl⟩
theorem longest_some {n : Nat} {le : Nat → Nat → Bool} (hn : n ≤ 12) (h0 : 0 < n) : ∃ m, m_longest (tab2 n le) = some m := by
  unfold m_longest
  have hl : (tab2 n le).length = n := tab_len
  rw [mapS_map (g := fun _ => (0 : Int)) (by omega) (fun _ _ => rfl)]
  simp only [Option.bind_eq_bind, Option.bind_some]
  obtain ⟨s, e, hs⟩ := forS_keep (body := m_longest_b1 (tab2 n le)) (xs := tab2 n le) (k := 0) (I := fun _ (s : List Int) => s.length = n) (s := List.map (fun _ => (0 : Int)) (tab2 n le)) (by simp [tab_len]) (by
    intro x _ k s _ _ hs
    unfold m_longest_b1
    simp only [tab_len, Option.bind_eq_bind, Option.bind_some]
    rw [rngM0 (by omega)]
    simp only [Option.bind_some]
    obtain ⟨s2, e2, hs2⟩ := forS_keep (body := m_longest_b2 (tab2 n le)) (xs := tab n fun i => (i : Int)) (k := 0) (I := fun _ (s : List Int) => s.length = n) (s := s) hs (by
      intro x hx k s _ _ hs
      obtain ⟨a, ha, rfl⟩ := tab_mem.mp hx
      unfold m_longest_b2
      simp only [tab_len, Option.bind_eq_bind, Option.bind_some]
      rw [rngM0 (by omega)]
      simp only [Option.bind_some]
      obtain ⟨s3, e3, hs3⟩ := forS_keep (body := m_longest_b3 (a : Int) (tab2 n le)) (xs := tab n fun i => (i : Int)) (k := 0) (I := fun _ (s : List Int) => s.length = n) (s := s) hs (by
        intro x hx k s _ _ hs
        obtain ⟨b, hb, rfl⟩ := tab_mem.mp hx
        unfold m_longest_b3
        have h1 := atI2 (R := le) ha hb
        rw [h1]
        unfold andO
        have g1 := atI_nat (xs := s) (i := b) (by omega)
        have g2 := atI_nat (xs := s) (i := a) (by omega)
        cases e : ((a : Int) == (b : Int)) with
        | true => exact ⟨s, by simp, hs⟩
        | false =>
          cases e2 : le a b with
          | false => exact ⟨s, by simp, hs⟩
          | true =>
            simp only [Bool.not_false, Option.bind_eq_bind, Option.bind_some, cond_true, g1, g2]
            unfold setM
            rw [ixN_nat (by omega)]
            exact ⟨_, rfl, by simp [hs]⟩)
      rw [e3]
      exact ⟨s3, rfl, hs3⟩)
    rw [e2]
    exact ⟨s2, rfl, hs2⟩)
  rw [e]
  obtain ⟨m, hm⟩ := maxL_some (xs := s) (by intro q; subst q; simp at hs; omega)
  exact ⟨m, by simp only [Option.bind_some]; rw [hm]; rfl⟩
/-- a lattice of n places -/
structure Lat (n : Nat) (le : Nat → Nat → Bool) (j m : Nat → Nat → Nat) : Prop where
  lo : 1 ≤ n
  hi : n ≤ 12
  o : Ord n le
  j : Lub n le j
  m : Lub n (fun a b => le b a) m
structure IsOrd (n : Nat) (le : Nat → Nat → Bool) (j m : Nat → Nat → Nat) (o : m_Order) : Prop where
  above : o.f_above = tab2 n le
  joins : o.f_joins = tab2 n fun a b => some ((j a b : Nat) : Int)
  meets : o.f_meets = tab2 n fun a b => some ((m a b : Nat) : Int)
  members : o.f_members = tab n fun i => (i : Int)
  height : m_longest (tab2 n le) = some o.f_height
end My

namespace My
open PySem L2 Sim PyProof.Rows
/-! ### the pot -/
theorem draw_eq (pot : List Int) {n : Nat} (h : 0 < n) : ∃ (v : Nat) (pot' : List Int), m__law_draw pot (n : Int) = some ((v : Int), pot') ∧ v < n := by
  unfold m__law_draw
  cases e : ((pot.length : Int) == 0) with
  | true => exact ⟨0, pot, rfl, h⟩
  | false =>
    have h0 : 0 < pot.length := by rw [beq_eq_false_iff_ne] at e; omega
    simp only [Option.bind_eq_bind, bs, cond_false]
    unfold popM
    rw [List.getElem?_eq_getElem (show pot.length - 1 < pot.length by omega)]
    simp only [Option.bind_eq_bind, bs]
    unfold modM
    rw [if_pos (by omega)]
    have h1 := Int.emod_nonneg (pot[pot.length - 1]) (show (n : Int) ≠ 0 by omega)
    have h2 := Int.emod_lt_of_pos (pot[pot.length - 1]) (show (0 : Int) < n by omega)
    refine ⟨(pot[pot.length - 1] % (n : Int)).toNat, pot.dropLast, ?_, by omega⟩
    simp only [bs]
    rw [show (((pot[pot.length - 1] % (n : Int)).toNat : Nat) : Int) = pot[pot.length - 1] % (n : Int) by omega]
theorem draw_lit (pot : List Int) (n : Nat) (h : 0 < n) {z : Int} (hz : z = (n : Int)) : ∃ (v : Nat) (pot' : List Int), m__law_draw pot z = some ((v : Int), pot') ∧ v < n := by
  subst hz; exact draw_eq pot h
theorem pot_b2 {k : Nat} {x : Int} {s : List Int × Int} (h1 : s.1.length ≤ k) (hk : k < 100000) : ∃ s', m__law_pot_b2 x s = some s' ∧ s'.1.length ≤ k + 1 := by
  obtain ⟨p, r⟩ := s
  unfold m__law_pot_b2
  simp only [Option.bind_eq_bind, bs]
  have hd : fdivM r 100 = some (r / 100) := by unfold fdivM; rw [if_pos (by decide)]
  have hm : modM r 100 = some (r % 100) := by unfold modM; rw [if_pos (by decide)]
  have ha : appM p (r % 100) = some (p ++ [r % 100]) := by unfold appM; rw [sz_t (show p.length < 100000 from Nat.lt_of_le_of_lt h1 hk)]; rfl
  rw [hd, hm]
  have h1 : p.length ≤ k := h1
  cases (decide ((0 : Int) < r) || x == 0) with
  | true =>
    simp only [cond_true, bs, ha]
    exact ⟨_, rfl, by simp; exact h1⟩
  | false =>
    simp only [cond_false, bs]
    exact ⟨_, rfl, by simp; omega⟩
theorem pot_b1 {ns : List Int} {i k : Nat} {s : List Int} (hi : i < ns.length) (hi' : i < 63) (h1 : s.length ≤ k) (hk : k + 60 < 100000) : ∃ s', m__law_pot_b1 ns (i : Int) s = some s' ∧ s'.length ≤ k + 60 := by
  unfold m__law_pot_b1
  rw [atI_nat hi]
  simp only [Option.bind_eq_bind, bs]
  generalize hr : (if ns[i] < 0 then -ns[i] else ns[i]) = r
  have hr0 : 0 ≤ r := by rw [← hr]; split <;> omega
  have hp : powM 10 18 = some 1000000000000000000 := by decide
  rw [hp]
  simp only [bs]
  have loop : ∀ (m : Nat) (r : Int), m ≤ 60 → ∃ s', ((rngM 0 (m : Int)).bind fun xs1671 => (forS m__law_pot_b2 xs1671 (s, r)).bind fun s1676 => some s1676.1) = some s' ∧ s'.length ≤ k + 60 := by
    intro m r hm
    rw [rngM0 (by omega)]
    simp only [bs]
    obtain ⟨t, e, ht⟩ := forS_keep (body := m__law_pot_b2) (xs := tab m fun i => (i : Int)) (k := k) (I := fun j (s : List Int × Int) => s.1.length ≤ j) (s := (s, r)) h1 (by
      intro x _ j s hj hj' hs
      rw [tab_len] at hj'
      exact pot_b2 hs (by omega))
    rw [e]
    rw [tab_len] at ht
    exact ⟨_, rfl, by omega⟩
  cases e : decide (r < 1000000000000000000) with
  | false =>
    simp only [cond_false, bs]
    obtain ⟨s', e2, h2⟩ := loop 60 r (by omega)
    exact ⟨s', e2, h2⟩
  | true =>
    have hr1 : r < 1000000000000000000 := of_decide_eq_true e
    simp only [cond_true, bs]
    have k1 : mulM 2 r = some (2 * r) := by unfold mulM; rw [if_pos (by omega)]
    have k2 : mulM 2 (i : Int) = some (2 * (i : Int)) := by unfold mulM; rw [if_pos (by omega)]
    have k3 : ∀ z, mulM z (48271 + 2 * (i : Int)) = some (z * (48271 + 2 * (i : Int))) := fun z => by unfold mulM; rw [if_pos (by omega)]
    rw [k1, k2]
    simp only [bs]
    rw [k3]
    simp only [bs]
    have k4 : ∀ z, modM z 2147483647 = some (z % 2147483647) := fun z => by unfold modM; rw [if_pos (by decide)]
    have k5 : ∀ z, modM z 2147483629 = some (z % 2147483629) := fun z => by unfold modM; rw [if_pos (by decide)]
    rw [k4]
    simp only [bs]
    generalize hq : ((2 * r + if decide (ns[i] < 0) = true then (1 : Int) else 0) * (48271 + 2 * (i : Int))) % 2147483647 = q
    have q0 : 0 ≤ q := by rw [← hq]; exact Int.emod_nonneg _ (by decide)
    have q1 : q < 2147483647 := by rw [← hq]; exact Int.emod_lt_of_pos _ (by decide)
    have k6 : mulM q q = some (q * q) := by unfold mulM; rw [if_pos (by omega)]
    have k7 : mulM q (i : Int) = some (q * (i : Int)) := by unfold mulM; rw [if_pos (by omega)]
    rw [k6, k7]
    simp only [bs]
    rw [k5]
    simp only [bs]
    obtain ⟨s', e2, h2⟩ := loop 4 ((q * q + q * (i : Int)) % 2147483629) (by omega)
    exact ⟨s', e2, h2⟩
theorem pot_eq (ns : List Int) : ∃ p, m__law_pot ns = some p := by
  unfold m__law_pot
  simp only [Option.bind_eq_bind, bs]
  have hn : ∃ n : Nat, (if (63 : Int) < (ns.length : Int) then (63 : Int) else (ns.length : Int)) = (n : Int) ∧ n ≤ 63 ∧ n ≤ ns.length := by
    split
    · exact ⟨63, rfl, by omega, by omega⟩
    · exact ⟨ns.length, rfl, by omega, by omega⟩
  obtain ⟨n, e, h1, h2⟩ := hn
  rw [e, rngM0 (by omega)]
  simp only [bs]
  obtain ⟨t, e, ht⟩ := forS_keep (body := m__law_pot_b1 ns) (xs := tab n fun i => (i : Int)) (k := 0) (I := fun j (s : List Int) => s.length ≤ j * 60) (s := []) (by simp) (by
    intro x hx j s hj hj' hs
    rw [tab_len] at hj'
    obtain ⟨i, hi, rfl⟩ := tab_mem.mp hx
    obtain ⟨s', e1, h1⟩ := pot_b1 (ns := ns) (i := i) (k := j * 60) (s := s) (by omega) (by omega) hs (by omega)
    exact ⟨s', e1, by omega⟩)
  rw [e]
  exact ⟨_, rfl⟩

end My

namespace My
theorem sel {α β γ : Type} {f : α → γ} {g : β → γ} {a : α} : Sum.elim f g (Sum.inl a) = f a := Eq.trans (Eq.refl _) (Eq.refl _)
theorem ctr {α : Type} {a b : α} : (bif true then a else b) = a := Eq.trans (Eq.refl _) (Eq.refl _)
theorem cfa {α : Type} {a b : α} : (bif false then a else b) = b := Eq.trans (Eq.refl _) (Eq.refl _)
theorem isn {α : Type} : (none : Option α).isSome = false := Eq.trans (Eq.refl _) (Eq.refl _)
theorem iss {α : Type} {a : α} : (some a).isSome = true := Eq.trans (Eq.refl _) (Eq.refl _)
end My

namespace My
open PySem L2 Sim PyProof.Rows
/-! ### the pot -/
/-! ### the masks -/
def nts (ms : List Nat) : List Int := ms.map (fun k : Nat => (k : Int))
theorem bitAnd_nat (x y : Nat) : Builtin.bitAnd (x : Int) (y : Int) = ((x &&& y : Nat) : Int) := by
  rw [bitAnd_pp (by omega) (by omega)]; simp
theorem mem_nts {x : Nat} {ms : List Nat} : (x : Int) ∈ nts ms ↔ x ∈ ms := by
  unfold nts
  rw [List.mem_map]
  constructor
  · rintro ⟨k, hk, e⟩
    have : k = x := by omega
    subst this; exact hk
  · intro h; exact ⟨x, h, rfl⟩
theorem nts_len {ms : List Nat} : (nts ms).length = ms.length := by simp [nts]
theorem nodup_len {ms : List Nat} (h : ms.Nodup) (hl : ∀ x ∈ ms, x < 32) : ms.length ≤ 32 := by
  have := len_sub h (l2 := List.range 32) (fun x hx => List.mem_range.mpr (hl x hx))
  simpa using this
/-- all & v added -/
def addAll (v : Nat) : List Nat → List Nat → List Nat
  | [], s => s
  | x :: xs, s => addAll v xs (if x &&& v ∈ s then s else s ++ [x &&& v])
theorem addAll_mem {v : Nat} : ∀ {xs s : List Nat} {z : Nat}, z ∈ addAll v xs s ↔ z ∈ s ∨ ∃ x ∈ xs, x &&& v = z
  | [], s, z => by simp [addAll]
  | x :: xs, s, z => by
    unfold addAll
    rw [addAll_mem]
    split
    · rename_i h
      constructor
      · rintro (h1 | ⟨y, hy, rfl⟩)
        · exact Or.inl h1
        · exact Or.inr ⟨y, List.mem_cons_of_mem _ hy, rfl⟩
      · rintro (h1 | ⟨y, hy, rfl⟩)
        · exact Or.inl h1
        · rcases List.mem_cons.mp hy with rfl | hy
          · exact Or.inl h
          · exact Or.inr ⟨y, hy, rfl⟩
    · constructor
      · rintro (h1 | ⟨y, hy, rfl⟩)
        · rcases List.mem_append.mp h1 with h1 | h1
          · exact Or.inl h1
          · rw [List.mem_singleton] at h1
            exact Or.inr ⟨x, List.mem_cons_self .., h1.symm⟩
        · exact Or.inr ⟨y, List.mem_cons_of_mem _ hy, rfl⟩
      · rintro (h1 | ⟨y, hy, rfl⟩)
        · exact Or.inl (List.mem_append_left _ h1)
        · rcases List.mem_cons.mp hy with rfl | hy
          · exact Or.inl (List.mem_append_right _ (List.mem_singleton.mpr rfl))
          · exact Or.inr ⟨y, hy, rfl⟩
theorem addAll_nd {v : Nat} : ∀ {xs s : List Nat}, s.Nodup → (addAll v xs s).Nodup
  | [], s, h => h
  | x :: xs, s, h => by
    unfold addAll
    split
    · exact addAll_nd h
    · rename_i hx
      exact addAll_nd (by
        rw [List.nodup_append]
        refine ⟨h, by simp, fun a ha b hb e => ?_⟩
        rw [List.mem_singleton] at hb
        subst hb; subst e
        exact hx ha)
theorem addAll_lt {v : Nat} {xs s : List Nat} (h : ∀ x ∈ s, x < 32) (hv : v < 32) : ∀ x ∈ addAll v xs s, x < 32 := by
  intro z hz
  rcases addAll_mem.mp hz with h1 | ⟨x, _, rfl⟩
  · exact h z h1
  · exact Nat.lt_of_le_of_lt Nat.and_le_right hv
theorem addAll_masks {v : Nat} {ms : List Nat} (h : Masks ms) (hv : v < 32) : Masks (addAll v ms ms) := by
  refine ⟨addAll_nd h.nd, addAll_lt h.lt hv, addAll_mem.mpr (Or.inl h.top), fun x hx y hy => ?_⟩
  refine addAll_mem.mpr ?_
  rcases addAll_mem.mp hx with h1 | ⟨a, ha, rfl⟩ <;> rcases addAll_mem.mp hy with h2 | ⟨b, hb, rfl⟩
  · exact Or.inl (h.cl _ h1 _ h2)
  · exact Or.inr ⟨x &&& b, h.cl _ h1 _ hb, Nat.and_assoc ..⟩
  · exact Or.inr ⟨a &&& y, h.cl _ ha _ h2, by rw [Nat.and_assoc, Nat.and_assoc, Nat.and_comm y v]⟩
  · refine Or.inr ⟨a &&& b, h.cl _ ha _ hb, ?_⟩
    rw [Nat.and_assoc, Nat.and_assoc, ← Nat.and_assoc v b v, Nat.and_comm v b, Nat.and_assoc b v v, Nat.and_self]
theorem masks_b2 {v : Nat} {pp : List Int} (hv : v < 32) : ∀ {xs s : List Nat}, s.Nodup → (∀ x ∈ s, x < 32) → forS (m__law_masks_b2 ((v : Int), pp)) (nts xs) (nts s) = some (nts (addAll v xs s))
  | [], s, _, _ => rfl
  | x :: xs, s, h, hl => by
    have ih : ∀ {s : List Nat}, s.Nodup → (∀ x ∈ s, x < 32) → forS (m__law_masks_b2 ((v : Int), pp)) (nts xs) (nts s) = some (nts (addAll v xs s)) := fun h1 h2 => masks_b2 hv h1 h2
    show (m__law_masks_b2 ((v : Int), pp) (x : Int) (nts s) >>= forS (m__law_masks_b2 ((v : Int), pp)) (nts xs)) = _
    have h1 := addAll_nd (v := v) (xs := [x]) h
    have h2 := addAll_lt (v := v) (xs := [x]) hl hv
    unfold addAll at h1 h2
    unfold addAll at h1 h2
    unfold addAll
    have e : m__law_masks_b2 ((v : Int), pp) (x : Int) (nts s) = some (nts (if x &&& v ∈ s then s else s ++ [x &&& v])) := by
      unfold m__law_masks_b2
      simp only [Option.bind_eq_bind, bs, bitAnd_nat]
      have hm : ((nts s).any fun z => z == ((x &&& v : Nat) : Int)) = decide (x &&& v ∈ s) := by
        cases q : ((nts s).any fun z => z == ((x &&& v : Nat) : Int)) with
        | true =>
          rw [List.any_eq_true] at q
          obtain ⟨z, hz, e⟩ := q
          rw [beq_iff_eq] at e; subst e
          simp [mem_nts.mp hz]
        | false =>
          have : x &&& v ∉ s := fun hx => by
            rw [List.any_eq_false] at q
            exact q _ (mem_nts.mpr hx) (by simp)
          simp [this]
      rw [hm]
      by_cases q : x &&& v ∈ s
      · simp [q]
      · have := nodup_len h hl
        simp only [q, decide_false, Bool.not_false, cond_true, if_false]
        unfold appM
        rw [sz_t (by rw [nts_len]; omega)]
        simp [nts]
    rw [e]
    exact ih h1 h2
structure MSt (most : Nat) (s : List Int × List Int) : Prop where
  ex : ∃ ms, Masks ms ∧ s.1 = nts ms ∧ ms.length ≤ most
theorem masks_b1 {most : Nat} {x : Int} {s : List Int × List Int} (h : MSt most s) : ∃ s', m__law_masks_b1 (most : Int) x s = some s' ∧ MSt most s' := by
  obtain ⟨m, p⟩ := s
  obtain ⟨ms, h1, rfl, h2⟩ := h.ex
  unfold m__law_masks_b1
  simp only [Option.bind_eq_bind, bs]
  obtain ⟨v, pot', e, hv⟩ := draw_lit p 32 (by decide) (z := 32) rfl
  rw [e]
  simp only [bs]
  rw [masks_b2 hv h1.nd h1.lt]
  simp only [bs, nts_len]
  by_cases q : (addAll v ms ms).length ≤ most
  · have : decide (((addAll v ms ms).length : Int) ≤ (most : Int)) = true := by simp; exact q
    rw [this]
    exact ⟨_, rfl, ⟨_, addAll_masks h1 hv, rfl, q⟩⟩
  · have : decide (((addAll v ms ms).length : Int) ≤ (most : Int)) = false := by simp; omega
    rw [this]
    exact ⟨_, rfl, ⟨_, h1, rfl, h2⟩⟩
theorem masks_b3 {xs : List Int} {k : Nat} {x : Int} {s : List Int × (List Int × List Int)} (hk : k < xs.length) (hl : xs.length < 100) (h : (s.1 ++ s.2.2).Perm xs ∧ s.1.length = k) :
    ∃ s', m__law_masks_b3 x s = some s' ∧ (s'.1 ++ s'.2.2).Perm xs ∧ s'.1.length = k + 1 := by
  obtain ⟨a, p, r⟩ := s
  obtain ⟨h1, h2⟩ := h
  have h1 : (a ++ r).Perm xs := h1
  have h2 : a.length = k := h2
  have hr := h1.length_eq
  rw [List.length_append] at hr
  unfold m__law_masks_b3
  simp only [Option.bind_eq_bind, bs]
  obtain ⟨v, pot', e, hv⟩ := draw_eq p (n := r.length) (by omega)
  rw [e]
  simp only [bs]
  rw [popAt_eq hv (by omega)]
  simp only [bs]
  unfold appM
  rw [sz_t (by omega)]
  refine ⟨_, rfl, ?_, by simp [h2]⟩
  show ((a ++ [r[v]]) ++ r.eraseIdx v).Perm xs
  refine (List.Perm.trans ?_ h1)
  rw [List.append_assoc]
  exact List.Perm.append_left a (perm_erase hv).symm
theorem Masks.perm {ms ms' : List Nat} (h : Masks ms) (p : ms'.Perm ms) : Masks ms' :=
  ⟨p.nodup_iff.mpr h.nd, fun x hx => h.lt x (p.mem_iff.mp hx), p.mem_iff.mpr h.top, fun x hx y hy => p.mem_iff.mpr (h.cl x (p.mem_iff.mp hx) y (p.mem_iff.mp hy))⟩
theorem perm_nts {xs : List Int} {ms : List Nat} (p : xs.Perm (nts ms)) : ∃ ms', xs = nts ms' ∧ ms'.Perm ms := by
  refine ⟨xs.map Int.toNat, ?_, ?_⟩
  · unfold nts
    rw [List.map_map]
    have : ∀ x ∈ xs, (((fun k : Nat => (k : Int)) ∘ Int.toNat) x) = x := fun x hx => by
      obtain ⟨k, _, rfl⟩ := List.mem_map.mp (p.mem_iff.mp hx)
      simp
    rw [List.map_congr_left this]
    simp
  · have := p.map Int.toNat
    unfold nts at this
    rw [List.map_map] at this
    have e : (Int.toNat ∘ fun k : Nat => (k : Int)) = id := by funext k; simp
    rw [e, List.map_id] at this
    exact this
theorem masks_eq (pot : List Int) {most : Nat} (hm : 1 ≤ most) : ∃ ms pot', m__law_masks pot (most : Int) = some (nts ms, pot') ∧ Masks ms ∧ ms.length ≤ most := by
  unfold m__law_masks
  simp only [Option.bind_eq_bind, bs]
  obtain ⟨v, p1, e, hv⟩ := draw_lit pot 6 (by decide) (z := 6) rfl
  rw [e]
  simp only [bs]
  have e2 : modM ((v : Int) + 1) 6 = some (((v + 1) % 6 : Nat) : Int) := by
    unfold modM
    rw [if_pos (by decide)]
    simp
  rw [e2]
  simp only [bs]
  rw [rngM0 (by omega)]
  simp only [bs]
  obtain ⟨s, e3, h3⟩ := forS_keep (body := m__law_masks_b1 (most : Int)) (xs := tab ((v + 1) % 6) fun i => (i : Int)) (k := 0) (I := fun _ s => MSt most s) (s := ([31], p1)) ⟨[31], ⟨by simp, by simp, by simp, by simp⟩, rfl, hm⟩ (fun x _ j s _ _ hs => masks_b1 hs)
  rw [e3]
  simp only [bs]
  obtain ⟨m, p2⟩ := s
  obtain ⟨ms, h4, rfl, h5⟩ := h3.ex
  have h6 := nodup_len h4.nd h4.lt
  rw [nts_len, if_pos (by omega)]
  simp only [bs]
  have hp := srtI_perm (nts ms)
  have hl := hp.length_eq
  rw [nts_len] at hl
  rw [hl, rngM0 (by omega)]
  simp only [bs]
  obtain ⟨s, e7, h7⟩ := forS_keep (body := m__law_masks_b3) (xs := tab ms.length fun i => (i : Int)) (k := 0) (I := fun j (s : List Int × (List Int × List Int)) => (s.1 ++ s.2.2).Perm (srtI (nts ms)) ∧ s.1.length = j) (s := ([], (p2, srtI (nts ms)))) ⟨by simp, rfl⟩ (by
    intro x _ j s _ hj hs
    rw [tab_len] at hj
    exact masks_b3 (by omega) (by omega) hs)
  rw [e7]
  simp only [bs]
  obtain ⟨a, p3, r⟩ := s
  obtain ⟨h8, h9⟩ := h7
  have h8 : (a ++ r).Perm (srtI (nts ms)) := h8
  have h9 : a.length = 0 + (tab ms.length fun i => (i : Int)).length := h9
  rw [tab_len] at h9
  have h10 := h8.length_eq
  rw [List.length_append] at h10
  have : r = [] := List.length_eq_zero_iff.mp (by omega)
  subst this
  rw [List.append_nil] at h8
  obtain ⟨ms', rfl, h11⟩ := perm_nts (h8.trans hp)
  exact ⟨ms', p3, rfl, h4.perm h11, by rw [h11.length_eq]; exact h5⟩

/-! ### the order of the masks -/
theorem atI_nts {ms : List Nat} {a : Nat} (h : a < ms.length) : atI (nts ms) (a : Int) = some ((ms.getD a 0 : Nat) : Int) := by
  rw [atI_nat (by rw [nts_len]; exact h)]
  simp [nts, List.getD_eq_getElem?_getD, List.getElem?_eq_getElem h]
theorem under_eq {ms : List Nat} {a b : Nat} (ha : a < ms.length) (hb : b < ms.length) : m__law_under (nts ms) (a : Int) (b : Int) = some (mle ms a b) := by
  unfold m__law_under
  rw [atI_nts ha, atI_nts hb]
  simp only [Option.bind_eq_bind, bs, bitAnd_nat]
  unfold mle
  congr 1
  cases e : (ms.getD a 0 &&& ms.getD b 0 == ms.getD a 0) with
  | true => rw [beq_iff_eq] at e; rw [e]; simp
  | false => rw [beq_eq_false_iff_ne] at e ⊢; omega
end My

namespace My
open PySem L2 Sim PyProof.Rows
theorem forS_flat {α β γ : Type} {body : β → List γ → Option (List γ)} {a : α → β} {f : α → List γ} {B : Nat} : ∀ {xs : List α} {s : List γ}, (∀ x ∈ xs, ∀ s, s.length + (f x).length ≤ B → body (a x) s = some (s ++ f x)) → s.length + (xs.flatMap f).length ≤ B →
    forS body (xs.map a) s = some (s ++ xs.flatMap f)
  | [], s, _, _ => by simp [forS]
  | x :: xs, s, h, hB => by
    show (body (a x) s >>= forS body (xs.map a)) = _
    rw [List.flatMap_cons, List.length_append] at hB
    rw [h x (List.mem_cons_self ..) s (by omega)]
    show forS body (xs.map a) (s ++ f x) = _
    rw [forS_flat (fun y hy => h y (List.mem_cons_of_mem _ hy)) (by rw [List.length_append]; omega), List.flatMap_cons, List.append_assoc]
theorem flat_len {α γ : Type} {f : α → List γ} {k : Nat} : ∀ {xs : List α}, (∀ x ∈ xs, (f x).length ≤ k) → (xs.flatMap f).length ≤ xs.length * k
  | [], _ => by simp
  | x :: xs, h => by
    rw [List.flatMap_cons, List.length_append, List.length_cons, Nat.succ_mul]
    have := flat_len (fun y hy => h y (List.mem_cons_of_mem _ hy))
    have := h x (List.mem_cons_self ..)
    omega
theorem forL_some {α β ρ : Type} {body : β → Unit → Option (Stp Unit ρ)} {a : α → β} {g : α → Option ρ} : ∀ {xs : List α}, (∀ x ∈ xs, body (a x) () = some (match g x with | some r => .rt r | none => .nx ())) →
    forL body (xs.map a) () = some (match xs.findSome? g with | some r => .inr r | none => .inl ())
  | [], _ => rfl
  | x :: xs, h => by
    show (body (a x) () >>= stpK (forL body (xs.map a))) = _
    rw [h x (List.mem_cons_self ..), List.findSome?_cons]
    cases g x with
    | some r => rfl
    | none => exact forL_some fun y hy => h y (List.mem_cons_of_mem _ hy)
end My

namespace My
open PySem L2 Sim PyProof.Rows
/-! ### the covers, the pairs given -/
theorem covs_row_len (ms : List Nat) (a : Nat) : ((List.range ms.length).flatMap fun b => if isCov ms a b = true then [((a : Int), (b : Int))] else []).length ≤ ms.length := by
  have := flat_len (f := fun b => if isCov ms a b = true then [((a : Int), (b : Int))] else []) (k := 1) (xs := List.range ms.length) (fun x _ => by split <;> simp)
  simpa using this
theorem covs_len (ms : List Nat) : (covs ms).length ≤ ms.length * ms.length := by
  have := flat_len (xs := List.range ms.length) (fun a _ => covs_row_len ms a)
  rw [List.length_range] at this
  exact this
theorem covers_eq {ms : List Nat} (hl : ms.length ≤ 12) : m__law_covers (nts ms) = some (covs ms) := by
  unfold m__law_covers
  simp only [Option.bind_eq_bind, bs, nts_len]
  rw [rngM0 (by omega)]
  simp only [bs]
  have h2 : ms.length * ms.length ≤ 144 := Nat.mul_le_mul hl hl
  have h3 := covs_len ms
  have := forS_flat (body := m__law_covers_b1 (nts ms)) (a := fun i : Nat => (i : Int)) (f := fun a => (List.range ms.length).flatMap fun b => if isCov ms a b = true then [((a : Int), (b : Int))] else []) (B := 144) (xs := List.range ms.length) (s := []) (by
    intro a ha s hs
    have ha := List.mem_range.mp ha
    unfold m__law_covers_b1
    simp only [Option.bind_eq_bind, bs, nts_len]
    rw [rngM0 (by omega)]
    simp only [bs]
    have := forS_flat (body := m__law_covers_b2 (nts ms) (a : Int)) (a := fun i : Nat => (i : Int)) (f := fun b => if isCov ms a b = true then [((a : Int), (b : Int))] else []) (B := 144) (xs := List.range ms.length) (s := s) (by
      intro b hb s hs
      have hb := List.mem_range.mp hb
      unfold m__law_covers_b2
      simp only [Option.bind_eq_bind, bs, nts_len]
      rw [rngM0 (by omega)]
      simp only [bs]
      rw [lcS_tab (p := fun k => mle ms a k && mle ms k b) (g := fun k => (k : Int)) (by omega) ?h1 (fun _ _ => rfl)]
      case h1 =>
        intro k hk
        rw [under_eq ha hk, under_eq hk hb]
        unfold andO
        cases mle ms a k <;> rfl
      simp only [bs, List.length_map]
      have : ((!((a : Int) == (b : Int))) && ((((List.range ms.length).filter fun k => mle ms a k && mle ms k b).length : Int) == 2)) = isCov ms a b := by
        unfold isCov btw
        congr 1
        · congr 1
          cases e : (a == b) with
          | true => rw [beq_iff_eq] at e; rw [e]; simp
          | false => rw [beq_eq_false_iff_ne] at e ⊢; omega
        · cases e : (((List.range ms.length).filter fun k => mle ms a k && mle ms k b).length == 2) with
          | true => rw [beq_iff_eq] at e; rw [e]; rfl
          | false => rw [beq_eq_false_iff_ne] at e ⊢; omega
      rw [this]
      cases e : isCov ms a b with
      | true =>
        simp only [cond_true, bs]
        unfold appM
        rw [sz_t (by omega)]
        simp
      | false => simp) hs
    show ((forS (m__law_covers_b2 (nts ms) (a : Int)) (List.map (fun i : Nat => (i : Int)) (List.range ms.length)) s).bind some) = _
    rw [this]
    rfl) (by simp only [List.length_nil, Nat.zero_add]; exact Nat.le_trans h3 h2)
  show ((forS (m__law_covers_b1 (nts ms)) (List.map (fun i : Nat => (i : Int)) (List.range ms.length)) []).bind some) = _
  rw [this]
  rfl
theorem Told.add {ms : List Nat} {ps : List (Int × Int)} (t : Told ms ps) {a b k : Nat} (ha : a < ms.length) (hb : b < ms.length) (hle : mle ms a b = true) : Told ms (ps.take k ++ [((a : Int), (b : Int))] ++ ps.drop k) := by
  have hm : ∀ p, p ∈ ps.take k ++ [((a : Int), (b : Int))] ++ ps.drop k ↔ p = ((a : Int), (b : Int)) ∨ p ∈ ps := fun p => by
    have : p ∈ ps ↔ p ∈ ps.take k ∨ p ∈ ps.drop k := by rw [← List.mem_append, List.take_append_drop]
    rw [this]
    simp only [List.mem_append, List.mem_singleton]
    constructor
    · rintro ((h | h) | h)
      · exact Or.inr (Or.inl h)
      · exact Or.inl h
      · exact Or.inr (Or.inr h)
    · rintro (h | h | h)
      · exact Or.inl (Or.inr h)
      · exact Or.inl (Or.inl h)
      · exact Or.inr h
  refine ⟨fun p hp => ?_, fun p hp => (hm p).mpr (Or.inr (t.cv p hp))⟩
  rcases (hm p).mp hp with rfl | h
  · exact ⟨a, b, ha, hb, hle, rfl⟩
  · exact t.rg p h
end My

namespace My
open PySem L2 Sim PyProof.Rows
/-! ### making an order: what comes of any pairs -/
def ipair (o : Option (Nat × Nat)) : Option (Int × Int) := o.map fun q => ((q.1 : Int), (q.2 : Int))
theorem ff_loop {n : Nat} {p : Nat → Nat → Bool} {b1 : Int → Unit → Option (Stp Unit (Option (Int × Int)))} {b2 : Int → Int → Unit → Option (Stp Unit (Option (Int × Int)))} (hn : n ≤ 12)
    (h1 : ∀ a : Nat, a < n → b1 (a : Int) () = (forL (b2 (a : Int)) (tab (n - (a + 1)) fun k => ((a + 1 + k : Nat) : Int)) () >>= Sum.elim (fun _ => some (Stp.nx ())) (fun r => some (Stp.rt r))))
    (h2 : ∀ a b : Nat, a < n → b < n → b2 (a : Int) (b : Int) () = some (bif p a b then .rt (some ((a : Int), (b : Int))) else .nx ())) :
    forL b1 (tab n fun i => (i : Int)) () = some (match ff n p with | some q => .inr (some ((q.1 : Int), (q.2 : Int))) | none => .inl ()) := by
  have := forL_some (body := b1) (a := fun i : Nat => (i : Int)) (g := fun a => ((List.range (n - (a + 1))).find? fun k => p a (a + 1 + k)).map fun k => some ((a : Int), ((a + 1 + k : Nat) : Int))) (xs := List.range n) (by
    intro a ha
    have ha := List.mem_range.mp ha
    rw [h1 a ha]
    have := forL_find (body := b2 (a : Int)) (a := fun k : Nat => ((a + 1 + k : Nat) : Int)) (p := fun k => p a (a + 1 + k)) (g := fun k => some ((a : Int), ((a + 1 + k : Nat) : Int))) (xs := List.range (n - (a + 1))) (fun k hk => h2 a (a + 1 + k) ha (by have := List.mem_range.mp hk; omega))
    show (forL (b2 (a : Int)) (List.map (fun k : Nat => ((a + 1 + k : Nat) : Int)) (List.range (n - (a + 1)))) () >>= _) = _
    rw [this]
    cases (List.range (n - (a + 1))).find? fun k => p a (a + 1 + k) <;> rfl)
  show forL b1 (List.map (fun i : Nat => (i : Int)) (List.range n)) () = _
  rw [this]
  unfold ff
  congr 1
  generalize List.range n = l
  induction l with
  | nil => rfl
  | cons x xs ih =>
    rw [List.findSome?_cons, List.findSome?_cons]
    cases (List.range (n - (x + 1))).find? fun k => p x (x + 1 + k) with
    | none => exact ih
    | some k => rfl
theorem ring_eq {n : Nat} {R : Nat → Nat → Bool} (hn : n ≤ 12) : m_first_ring (tab2 n R) = some (ipair (ff n fun a b => R a b && R b a)) := by
  unfold m_first_ring
  rw [tab_len]
  simp only [Option.bind_eq_bind, Option.bind_some]
  rw [rngM0 (by omega)]
  simp only [Option.bind_some]
  rw [ff_loop (b2 := m_first_ring_b2 (tab2 n R)) (p := fun a b => R a b && R b a) hn]
  · cases ff n fun a b => R a b && R b a <;> rfl
  · intro a ha
    unfold m_first_ring_b1
    rw [tab_len]
    simp only [Option.bind_eq_bind, Option.bind_some]
    rw [show (a : Int) + 1 = ((a + 1 : Nat) : Int) by simp, rngM1 (by omega) (by omega)]
    rfl
  · intro a b ha hb
    unfold m_first_ring_b2
    have h1 := atI2 (R := R) ha hb
    have h2 := atI2 (R := R) hb ha
    rw [h1, h2]
    unfold andO
    cases R a b <;> cases R b a <;> rfl
theorem lack_eq {α : Type} {n : Nat} {f : Nat → Nat → Option Int} (hn : n ≤ 12) : m_first_lack (tab2 n f) = some (ipair (ff n fun a b => (f a b).isNone)) := by
  unfold m_first_lack
  rw [tab_len]
  simp only [Option.bind_eq_bind, Option.bind_some]
  rw [rngM0 (by omega)]
  simp only [Option.bind_some]
  rw [ff_loop (b2 := m_first_lack_b2 (tab2 n f)) (p := fun a b => (f a b).isNone) hn]
  · cases ff n fun a b => (f a b).isNone <;> rfl
  · intro a ha
    unfold m_first_lack_b1
    rw [tab_len]
    simp only [Option.bind_eq_bind, Option.bind_some]
    rw [show (a : Int) + 1 = ((a + 1 : Nat) : Int) by simp, rngM1 (by omega) (by omega)]
    rfl
  · intro a b ha hb
    unfold m_first_lack_b2
    have h1 := atI2 (R := f) ha hb
    rw [h1]
    simp only [Option.bind_eq_bind, Option.bind_some]
    cases (f a b).isNone <;> rfl
theorem least_above_any {n : Nat} {R : Nat → Nat → Bool} (hn : n ≤ 12) {a b : Nat} (ha : a < n) (hb : b < n) :
    m_least_above (tab2 n R) (a : Int) (b : Int) = some ((lab n R a b).map fun c => (c : Int)) := by
  unfold m_least_above
  rw [tab_len, rngM0 (by omega)]
  simp only [Option.bind_eq_bind, Option.bind_some]
  rw [lcS_tab (p := fun c => R a c && R b c) (g := fun c => (c : Int)) (by omega) ?h1 (fun _ _ => rfl)]
  case h1 =>
    intro c hc
    have h1 := atI2 (R := R) ha hc
    have h2 := atI2 (R := R) hb hc
    simp only [Option.bind_eq_bind] at h1 h2
    rw [h1, h2]
    unfold andO
    cases R a c <;> rfl
  simp only [Option.bind_some]
  unfold lab
  have hU : ∀ c, c ∈ ups n R a b → c < n := fun c h => List.mem_range.mp (List.mem_filter.mp h).1
  have hUe : (List.range n).filter (fun c => R a c && R b c) = ups n R a b := rfl
  rw [hUe]
  have hl : (ups n R a b).length ≤ n := Nat.le_trans (List.length_filter_le _ _) (by simp)
  generalize ups n R a b = U at hU hl
  rw [forL_find (p := fun e => (U.filter (fun x => R e x)).length == U.length) (g := fun e => some ((e : Nat) : Int))]
  · cases U.find? fun e => (U.filter (fun x => R e x)).length == U.length <;> rfl
  · intro e he
    have h1 := hU e he
    unfold m_least_above_b1
    rw [lcS_map (p := fun x => R e x) (g := fun c => (c : Int)) (by omega) ?h2 (fun _ _ => rfl)]
    case h2 =>
      intro x hx
      exact atI2 h1 (hU x hx)
    simp only [Option.bind_eq_bind, Option.bind_some, List.length_map]
    have : (((U.filter fun x => R e x).length : Int) == (U.length : Int)) = ((U.filter fun x => R e x).length == U.length) := by
      cases h : ((U.filter fun x => R e x).length == U.length) with
      | true => rw [beq_iff_eq] at h; rw [h]; simp
      | false => rw [beq_eq_false_iff_ne] at h ⊢; omega
    rw [this]
    cases ((U.filter fun x => R e x).length == U.length) <;> rfl
theorem bounds_any {n : Nat} {R : Nat → Nat → Bool} (hn : n ≤ 12) : m_bounds_table (tab2 n R) = some (tab2 n fun a b => (lab n R a b).map fun c => (c : Int)) := by
  unfold m_bounds_table
  rw [tab_len]
  simp only [Option.bind_eq_bind, Option.bind_some]
  rw [rngM0 (by omega)]
  simp only [Option.bind_some]
  rw [mapS_tab (g := fun a => tab n fun b => (lab n R a b).map fun c => (c : Int)) (by omega)]
  · rfl
  · intro a ha
    rw [mapS_tab (g := fun b => (lab n R a b).map fun c => (c : Int)) (by omega)]
    intro b hb
    exact least_above_any hn ha hb
/-- the closure of pairs in range -/
def clo (n : Nat) (ps : List (Int × Int)) : Nat → Nat → Bool := wsh (fun a b => a == b || decide (((a : Int), (b : Int)) ∈ ps)) n
end My

namespace My
open PySem L2 Sim PyProof.Rows
/-! ### Order.__init__ with what it raises -/
theorem initX_in {n : Nat} {ps : List (Int × Int)} (h0 : 1 ≤ n) (hn : n ≤ 12) (hp : InR n ps) :
    ∃ r, m_Order___init___X (n : Int) ps = some r ∧ (match made n (clo n ps) with | some e => r = .inl e | none => ∃ o, r = .inr o ∧ o.f_above = tab2 n (clo n ps) ∧ o.f_members = tab n fun i => (i : Int)) := by
  unfold m_Order___init___X
  have e1 : ((decide ((n : Int) < 1)) || (decide ((12 : Int) < (n : Int)))) = false := by simp; omega
  rw [e1]
  simp only [Option.bind_eq_bind, bs, cfa]
  rw [forL_nx (body := m_Order___init___X_b1 (n : Int)) (by
    intro p hq
    obtain ⟨a, b, ha, hb, rfl⟩ := hp p hq
    unfold m_Order___init___X_b1
    simp only [Option.bind_eq_bind, bs]
    rw [forL_nx]
    · rfl
    · intro x hx
      unfold m_Order___init___X_b2
      have : (decide (x < 0) || decide ((n : Int) ≤ x)) = false := by
        rcases List.mem_cons.mp hx with rfl | hx
        · simp; omega
        · rcases List.mem_cons.mp hx with rfl | hx
          · simp; omega
          · cases hx
      rw [this]; rfl)]
  simp only [bs, sel]
  rw [m_closure_eq hn hp]
  have ec : wsh (fun a b => a == b || decide (((a : Int), (b : Int)) ∈ ps)) n = clo n ps := rfl
  rw [ec]
  generalize clo n ps = R
  simp only [bs]
  unfold made
  cases h1 : ff n fun a b => R a b && R b a with
  | some q =>
    rw [show m_first_ring (tab2 n R) = some (some ((q.1 : Int), (q.2 : Int))) by rw [ring_eq hn, h1]; rfl]
    simp only [bs, iss, ctr]
    exact ⟨_, rfl, rfl⟩
  | none =>
    rw [show m_first_ring (tab2 n R) = some none by rw [ring_eq hn, h1]; rfl]
    simp only [bs, isn, cfa]
    rw [bounds_any hn]
    simp only [bs]
    have e2 : (fun a b => ((lab n R a b).map fun c => (c : Int)).isNone) = fun a b => (lab n R a b).isNone := by funext a b; cases lab n R a b <;> rfl
    cases h2 : ff n fun a b => (lab n R a b).isNone with
    | some q =>
      rw [show m_first_lack (tab2 n fun a b => (lab n R a b).map fun c => (c : Int)) = some (some ((q.1 : Int), (q.2 : Int))) by rw [lack_eq (α := Nat) hn, e2, h2]; rfl]
      simp only [bs, iss, ctr]
      exact ⟨_, rfl, rfl⟩
    | none =>
      rw [show m_first_lack (tab2 n fun a b => (lab n R a b).map fun c => (c : Int)) = some none by rw [lack_eq (α := Nat) hn, e2, h2]; rfl]
      simp only [bs, isn, cfa]
      rw [turned_eq hn]
      simp only [bs]
      rw [bounds_any hn]
      simp only [bs]
      have e3 : (fun a b => ((lab n (fun a b => R b a) a b).map fun c => (c : Int)).isNone) = fun a b => (lab n (fun a b => R b a) a b).isNone := by funext a b; cases lab n (fun a b => R b a) a b <;> rfl
      cases h3 : ff n fun a b => (lab n (fun a b => R b a) a b).isNone with
      | some q =>
        rw [show m_first_lack (tab2 n fun a b => (lab n (fun a b => R b a) a b).map fun c => (c : Int)) = some (some ((q.1 : Int), (q.2 : Int))) by rw [lack_eq (α := Nat) hn, e3, h3]; rfl]
        simp only [bs, iss, ctr]
        exact ⟨_, rfl, rfl⟩
      | none =>
        rw [show m_first_lack (tab2 n fun a b => (lab n (fun a b => R b a) a b).map fun c => (c : Int)) = some none by rw [lack_eq (α := Nat) hn, e3, h3]; rfl]
        simp only [bs, isn, cfa]
        rw [rngM0 (by omega)]
        simp only [bs]
        obtain ⟨h, hh⟩ := longest_some (le := R) hn (by omega)
        rw [hh]
        simp only [bs]
        exact ⟨_, rfl, _, rfl, rfl, rfl⟩
end My

namespace My
open PySem L2 Sim PyProof.Rows
/-! ### the law's closure, worked out in place; its first error -/
theorem set_tabG {α : Type} {n b : Nat} {f : Nat → α} {v : α} (hb : b < n) : (tab n f).set b v = tab n fun i => if i = b then v else f i := by
  refine List.ext_getElem (by simp [tab]) fun i h1 h2 => ?_
  simp only [tab, List.length_set, List.length_map, List.length_range] at h1
  simp only [tab, List.getElem_set, List.getElem_map, List.getElem_range]
  by_cases e : b = i
  · subst e; simp
  · have e' : ¬ i = b := fun z => e z.symm
    simp [e, e']
/-- while the row l is worked at, up to h -/
def mid (R : Nat → Nat → Bool) (m l h : Nat) (a b : Nat) : Bool := if a < l ∨ (a = l ∧ b < h) then wst m R a b else R a b
theorem mid_row {R : Nat → Nat → Bool} {m l h a : Nat} : mid R m l h a m = R a m := by
  unfold mid
  split
  · unfold wst
    cases R a m <;> rfl
  · rfl
theorem mid_col {R : Nat → Nat → Bool} {m l h b : Nat} : mid R m l h m b = R m b := by
  unfold mid
  split
  · unfold wst
    cases R m b <;> cases R m m <;> rfl
  · rfl
theorem lc_b4 {n m l h : Nat} {R : Nat → Nat → Bool} (hm : m < n) (hl : l < n) (hh : h < n) : m__law_closure_b4 (m : Int) (l : Int) (h : Int) (tab2 n (mid R m l h)) = some (tab2 n (mid R m l (h + 1))) := by
  unfold m__law_closure_b4
  have e1 : ix2 (tab2 n (mid R m l h)) (l : Int) (m : Int) = some (R l m) := by
    have := atI2 (R := mid R m l h) hl hm
    rw [mid_row] at this
    exact this
  have e2 : ix2 (tab2 n (mid R m l h)) (m : Int) (h : Int) = some (R m h) := by
    have := atI2 (R := mid R m l h) hm hh
    rw [mid_col] at this
    exact this
  rw [e1, e2]
  have ea : andO (some (R l m)) (some (R m h)) = some (R l m && R m h) := by
    unfold andO
    cases R l m <;> rfl
  rw [ea]
  show (bif (R l m && R m h) then set2 (tab2 n (mid R m l h)) (l : Int) (h : Int) true else some (tab2 n (mid R m l h))) = _
  cases c : (R l m && R m h) with
  | false =>
    show some (tab2 n (mid R m l h)) = _
    refine congrArg some (tab2_congr fun a ha b hb => ?_)
    unfold mid
    by_cases k : a = l ∧ b = h
    · obtain ⟨rfl, rfl⟩ := k
      rw [if_neg (by omega), if_pos (by omega)]
      unfold wst
      rw [c, Bool.or_false]
    · have : (a < l ∨ (a = l ∧ b < h)) ↔ (a < l ∨ (a = l ∧ b < h + 1)) := by omega
      simp only [this]
  | true =>
    show set2 (tab2 n (mid R m l h)) (l : Int) (h : Int) true = _
    unfold set2
    rw [show (tab2 n (mid R m l h)).length = n from tab_len, ixN_nat hl]
    show ((tab2 n (mid R m l h))[l]? >>= fun r => setM r (h : Int) true >>= fun r' => some ((tab2 n (mid R m l h)).set l r')) = _
    rw [show (tab2 n (mid R m l h))[l]? = some (tab n (mid R m l h l)) from tab_get hl]
    show (setM (tab n (mid R m l h l)) (h : Int) true >>= fun r' => some ((tab2 n (mid R m l h)).set l r')) = _
    have es : setM (tab n (mid R m l h l)) (h : Int) true = some (tab n fun i => if i = h then true else mid R m l h l i) := by
      unfold setM
      rw [tab_len, ixN_nat hh]
      show some ((tab n (mid R m l h l)).set h true) = _
      rw [set_tabG hh]
    rw [es]
    show some ((tab2 n (mid R m l h)).set l (tab n fun i => if i = h then true else mid R m l h l i)) = _
    unfold tab2
    rw [set_tabG hl]
    refine congrArg some (tab_congr fun a ha => ?_)
    by_cases k : a = l
    · subst k
      rw [if_pos rfl]
      refine tab_congr fun b hb => ?_
      by_cases k2 : b = h
      · subst k2
        rw [if_pos rfl]
        unfold mid
        rw [if_pos (by omega)]
        unfold wst
        rw [c, Bool.or_true]
      · rw [if_neg k2]
        unfold mid
        by_cases k3 : b < h
        · rw [if_pos (.inr ⟨rfl, k3⟩), if_pos (.inr ⟨rfl, by omega⟩)]
        · rw [if_neg (by omega), if_neg (by omega)]
    · rw [if_neg k]
      refine tab_congr fun b hb => ?_
      unfold mid
      have : (a < l ∨ (a = l ∧ b < h)) ↔ (a < l ∨ (a = l ∧ b < h + 1)) := by omega
      simp only [this]
theorem lc_b3 {n m l : Nat} {R : Nat → Nat → Bool} (hn : n ≤ 12) (hm : m < n) (hl : l < n) : m__law_closure_b3 (n : Int) (m : Int) (l : Int) (tab2 n (mid R m l 0)) = some (tab2 n (mid R m (l + 1) 0)) := by
  unfold m__law_closure_b3
  rw [rngM0 (by omega)]
  have := forS_tab (body := m__law_closure_b4 (m : Int) (l : Int)) (a := fun i : Nat => (i : Int)) (n := n) (S := fun h => tab2 n (mid R m l h)) (fun h hh => lc_b4 hm hl hh)
  show forS _ _ _ = _
  rw [this]
  refine congrArg some (tab2_congr fun a ha b hb => ?_)
  unfold mid
  have : (a < l ∨ (a = l ∧ b < n)) ↔ (a < l + 1 ∨ (a = l + 1 ∧ b < 0)) := by omega
  simp only [this]
theorem lc_b2 {n m : Nat} {R : Nat → Nat → Bool} (hn : n ≤ 12) (hm : m < n) : m__law_closure_b2 (n : Int) (m : Int) (tab2 n R) = some (tab2 n (wst m R)) := by
  unfold m__law_closure_b2
  rw [rngM0 (by omega)]
  have := forS_tab (body := m__law_closure_b3 (n : Int) (m : Int)) (a := fun i : Nat => (i : Int)) (n := n) (S := fun l => tab2 n (mid R m l 0)) (fun l hl => lc_b3 hn hm hl)
  have e0 : tab2 n (mid R m 0 0) = tab2 n R := tab2_congr fun a ha b hb => by unfold mid; rw [if_neg (by omega)]
  rw [e0] at this
  show forS _ _ _ = _
  rw [this]
  refine congrArg some (tab2_congr fun a ha b hb => ?_)
  unfold mid
  rw [if_pos (.inl ha)]
theorem lcl_eq {n : Nat} {ps : List (Int × Int)} (hn : n ≤ 12) : m__law_closure (n : Int) ps = some (tab2 n (clo n ps)) := by
  unfold m__law_closure
  rw [rngM0 (by omega)]
  have h1 := forS_tab (body := m__law_closure_b1 (n : Int) ps) (a := fun i : Nat => (i : Int)) (n := n) (S := fun k => tab k fun a => tab n fun b => (a == b || decide (((a : Int), (b : Int)) ∈ ps))) (fun a ha => by
    unfold m__law_closure_b1
    rw [rngM0 (by omega)]
    have e : mapS (fun y => some (((a : Int) == y) || (ps.any fun z => decide (z = ((a : Int), y))))) (tab n fun i => (i : Int)) = some (tab n fun b => (a == b || decide (((a : Int), (b : Int)) ∈ ps))) := by
      refine mapS_tab (by omega) fun b hb => ?_
      have k1 : ((a : Int) == (b : Int)) = (a == b) := by
        by_cases q : a = b
        · subst q; simp
        · have : ((a : Int) == (b : Int)) = false := by simp; omega
          rw [this]; simp [q]
      have k2 : (ps.any fun z => decide (z = ((a : Int), (b : Int)))) = decide (((a : Int), (b : Int)) ∈ ps) := by
        rw [Bool.eq_iff_iff]
        simp
      rw [k1, k2]
    show ((mapS _ _ >>= fun a_1 => appM _ a_1) : Option _) = _
    show (mapS (fun y => some (((a : Int) == y) || (ps.any fun z => decide (z = ((a : Int), y))))) (tab n fun i => (i : Int)) >>= fun r => appM _ r) = _
    rw [e]
    show appM _ _ = _
    unfold appM
    rw [tab_len, sz_t (by omega)]
    show some (_ ++ [_]) = some _
    unfold tab
    rw [List.range_succ, List.map_append]
    rfl)
  show (forS (m__law_closure_b1 (n : Int) ps) (tab n fun i => (i : Int)) [] >>= fun rows0 => some (tab n fun i => (i : Int)) >>= fun ys => forS (m__law_closure_b2 (n : Int)) ys rows0) = _
  have h1 : forS (m__law_closure_b1 (n : Int) ps) (tab n fun i => (i : Int)) [] = _ := h1
  rw [h1]
  show forS (m__law_closure_b2 (n : Int)) (tab n fun i => (i : Int)) (tab2 n fun a b => (a == b || decide (((a : Int), (b : Int)) ∈ ps))) = _
  exact forS_tab (body := m__law_closure_b2 (n : Int)) (a := fun i : Nat => (i : Int)) (n := n) (S := fun k => tab2 n (wsh (fun a b => a == b || decide (((a : Int), (b : Int)) ∈ ps)) k)) (fun i hi => lc_b2 hn hi)
/-- the first pair, in loops that hand anything back -/
theorem ff_loopG {ρ : Type} {n : Nat} {p : Nat → Nat → Bool} {g : Nat → Nat → ρ} {b1 : Int → Unit → Option (Stp Unit ρ)} {b2 : Int → Int → Unit → Option (Stp Unit ρ)} (hn : n ≤ 12)
    (h1 : ∀ a : Nat, a < n → b1 (a : Int) () = (forL (b2 (a : Int)) (tab (n - (a + 1)) fun k => ((a + 1 + k : Nat) : Int)) () >>= Sum.elim (fun _ => some (Stp.nx ())) (fun r => some (Stp.rt r))))
    (h2 : ∀ a b : Nat, a < n → b < n → b2 (a : Int) (b : Int) () = some (bif p a b then .rt (g a b) else .nx ())) :
    forL b1 (tab n fun i => (i : Int)) () = some (match ff n p with | some q => .inr (g q.1 q.2) | none => .inl ()) := by
  have := forL_some (body := b1) (a := fun i : Nat => (i : Int)) (g := fun a => ((List.range (n - (a + 1))).find? fun k => p a (a + 1 + k)).map fun k => g a (a + 1 + k)) (xs := List.range n) (by
    intro a ha
    have ha := List.mem_range.mp ha
    rw [h1 a ha]
    have := forL_find (body := b2 (a : Int)) (a := fun k : Nat => ((a + 1 + k : Nat) : Int)) (p := fun k => p a (a + 1 + k)) (g := fun k => g a (a + 1 + k)) (xs := List.range (n - (a + 1))) (fun k hk => h2 a (a + 1 + k) ha (by have := List.mem_range.mp hk; omega))
    show (forL (b2 (a : Int)) (List.map (fun k : Nat => ((a + 1 + k : Nat) : Int)) (List.range (n - (a + 1)))) () >>= _) = _
    rw [this]
    cases (List.range (n - (a + 1))).find? fun k => p a (a + 1 + k) <;> rfl)
  show forL b1 (List.map (fun i : Nat => (i : Int)) (List.range n)) () = _
  rw [this]
  unfold ff
  congr 1
  generalize List.range n = l
  induction l with
  | nil => rfl
  | cons x xs ih =>
    rw [List.findSome?_cons, List.findSome?_cons]
    cases (List.range (n - (x + 1))).find? fun k => p x (x + 1 + k) with
    | none => exact ih
    | some k => rfl
theorem all_filter {α : Type} {q : α → Bool} : ∀ {xs : List α}, ((xs.filter q).length == xs.length) = xs.all q
  | [] => rfl
  | x :: xs => by
    have h : (xs.filter q).length ≤ xs.length := List.length_filter_le _ _
    rw [List.filter_cons, List.all_cons, ← all_filter (xs := xs)]
    cases q x with
    | true => simp
    | false =>
      have : ((xs.filter q).length == (x :: xs).length) = false := by
        rw [beq_eq_false_iff_ne, List.length_cons]
        omega
      simpa using this
theorem lab_none {n : Nat} {R : Nat → Nat → Bool} {a b : Nat} : (lab n R a b).isNone = !((ups n R a b).any fun e => (ups n R a b).all fun x => R e x) := by
  unfold lab
  have : (fun e => ((ups n R a b).filter fun x => R e x).length == (ups n R a b).length) = fun e => (ups n R a b).all fun x => R e x := funext fun e => all_filter
  rw [this]
  cases h : (ups n R a b).find? fun e => (ups n R a b).all fun x => R e x with
  | none =>
    rw [List.find?_eq_none] at h
    have : ((ups n R a b).any fun e => (ups n R a b).all fun x => R e x) = false := by
      rw [List.any_eq_false]
      exact h
    rw [this]
    rfl
  | some e =>
    have : ((ups n R a b).any fun e => (ups n R a b).all fun x => R e x) = true := by
      rw [List.any_eq_true]
      exact ⟨e, List.mem_of_find?_eq_some h, by have := List.find?_some h; exact this⟩
    rw [this]
    rfl
theorem llack_eq {n : Nat} {R : Nat → Nat → Bool} (hn : n ≤ 12) : m__law_first_lack (tab2 n R) = some (ipair (ff n fun a b => (lab n R a b).isNone)) := by
  unfold m__law_first_lack
  rw [show (tab2 n R).length = n from tab_len]
  simp only [Option.bind_eq_bind, bs]
  rw [rngM0 (by omega)]
  simp only [bs]
  rw [ff_loopG (b2 := m__law_first_lack_b2 (tab2 n R)) (p := fun a b => (lab n R a b).isNone) (g := fun a b => some ((a : Int), (b : Int))) hn]
  · cases ff n fun a b => (lab n R a b).isNone <;> rfl
  · intro a ha
    unfold m__law_first_lack_b1
    rw [show (tab2 n R).length = n from tab_len]
    simp only [Option.bind_eq_bind, bs]
    rw [show (a : Int) + 1 = ((a + 1 : Nat) : Int) by simp, rngM1 (i := a + 1) (n := n) (by omega) (by omega)]
    rfl
  · intro a b ha hb
    unfold m__law_first_lack_b2
    rw [show (tab2 n R).length = n from tab_len, rngM0 (n := n) (by omega)]
    have e1 : lcS (fun x => andO (atI (tab2 n R) (a : Int) >>= fun t => atI t x) (atI (tab2 n R) (b : Int) >>= fun t => atI t x)) (fun x => some x) (tab n fun i => (i : Int)) = some ((ups n R a b).map fun c : Nat => (c : Int)) := by
      rw [lcS_tab (p := fun c => R a c && R b c) (g := fun c => (c : Int)) (by omega) ?hq1 (fun _ _ => rfl)]
      · rfl
      case hq1 =>
        intro c hc
        rw [atI2 (R := R) ha hc, atI2 (R := R) hb hc]
        unfold andO
        cases R a c <;> rfl
    simp only [Option.bind_eq_bind, bs] at e1 ⊢
    rw [e1]
    simp only [bs]
    have hU : ∀ c, c ∈ ups n R a b → c < n := fun c h => List.mem_range.mp (List.mem_filter.mp h).1
    have hl : (ups n R a b).length ≤ n := Nat.le_trans (List.length_filter_le _ _) (by simp)
    have e2 : mapS (fun x2509 => (mapS (fun x2517 => (Option.bind (atI (tab2 n R) x2509) fun t2522 => atI t2522 x2517)) ((ups n R a b).map fun c : Nat => (c : Int))).bind fun t2524 => some (t2524.all id)) ((ups n R a b).map fun c : Nat => (c : Int)) = some ((ups n R a b).map fun e => (ups n R a b).all fun x => R e x) := by
      have := mapS_map (xs := (ups n R a b).map fun c : Nat => (c : Int)) (f := fun x2509 => (mapS (fun x2517 => (Option.bind (atI (tab2 n R) x2509) fun t2522 => atI t2522 x2517)) ((ups n R a b).map fun c : Nat => (c : Int))).bind fun t2524 => some (t2524.all id)) (g := fun y => (ups n R a b).all fun x => R y.toNat x) (by rw [List.length_map]; omega) (fun y hy => by
        obtain ⟨e, he, rfl⟩ := List.mem_map.mp hy
        have := mapS_map (xs := (ups n R a b).map fun c : Nat => (c : Int)) (f := fun x2517 => (Option.bind (atI (tab2 n R) (e : Int)) fun t2522 => atI t2522 x2517)) (g := fun y => R e y.toNat) (by rw [List.length_map]; omega) (fun y hy => by
          obtain ⟨x, hx, rfl⟩ := List.mem_map.mp hy
          have := atI2 (R := R) (hU e he) (hU x hx)
          simpa using this)
        rw [this, List.map_map]
        simp only [bs]
        refine congrArg some ?_
        rw [List.all_map]
        simp [Function.comp_def])
      rw [this, List.map_map]
      refine congrArg some (List.map_congr_left fun e _ => ?_)
      simp
    rw [e2]
    simp only [bs]
    rw [lab_none, List.any_map]
    simp only [Function.comp_def, id]
    cases ((ups n R a b).any fun e => (ups n R a b).all fun x => R e x) <;> rfl
end My

namespace My
open PySem L2 Sim PyProof.Rows
/-! ### the law's spoilt pairs: any outcome, in bounds -/
theorem exB {α β : Type} {X : Option α} {K : α → Option β} {P : α → Prop} {Q : β → Prop} (h : ∃ v, X = some v ∧ P v) (k : ∀ v, P v → ∃ r, K v = some r ∧ Q r) : ∃ r, (X >>= K) = some r ∧ Q r := by
  obtain ⟨v, rfl, hv⟩ := h
  exact k v hv
theorem exS {α β : Type} {v : α} {K : α → Option β} {Q : β → Prop} (h : ∃ r, K v = some r ∧ Q r) : ∃ r, (some v >>= K) = some r ∧ Q r := h
theorem exR {α : Type} {v : α} {Q : α → Prop} (h : Q v) : ∃ r, some v = some r ∧ Q r := ⟨v, rfl, h⟩
theorem exI {α : Type} {b : Bool} {x y : Option α} {Q : α → Prop} (h1 : b = true → ∃ r, x = some r ∧ Q r) (h2 : b = false → ∃ r, y = some r ∧ Q r) : ∃ r, (bif b then x else y) = some r ∧ Q r := by
  cases b with
  | true => exact h1 rfl
  | false => exact h2 rfl
theorem exD (pot : List Int) {n : Nat} {z : Int} (hz : z = (n : Int)) (h : 0 < n) : ∃ v, m__law_draw pot z = some v ∧ ∃ k : Nat, v.1 = (k : Int) ∧ k < n := by
  subst hz
  obtain ⟨v, p, e, hv⟩ := draw_eq pot h
  exact ⟨_, e, v, rfl, hv⟩
theorem exF {α σ : Type} {body : α → σ → Option σ} {I : σ → Prop} (h : ∀ x s, I s → ∃ s', body x s = some s' ∧ I s') : ∀ (xs : List α) {s : σ}, I s → ∃ s', forS body xs s = some s' ∧ I s'
  | [], s, hs => ⟨s, rfl, hs⟩
  | x :: xs, s, hs => by
    obtain ⟨t, e, ht⟩ := h x s hs
    obtain ⟨u, e2, hu⟩ := exF h xs ht
    refine ⟨u, ?_, hu⟩
    show (body x s >>= forS body xs) = _
    rw [e]
    exact e2
theorem exF2 {α σ : Type} {body : α → σ → Option σ} {I : Nat → σ → Prop} {N : Nat} (h : ∀ x k s, k < N → I k s → ∃ s', body x s = some s' ∧ I (k + 1) s') : ∀ (xs : List α) {k : Nat} {s : σ}, k + xs.length ≤ N → I k s → ∃ s', forS body xs s = some s' ∧ I (k + xs.length) s'
  | [], k, s, _, hs => ⟨s, rfl, hs⟩
  | x :: xs, k, s, hk, hs => by
    rw [List.length_cons] at hk ⊢
    obtain ⟨t, e, ht⟩ := h x k s (by omega) hs
    obtain ⟨u, e2, hu⟩ := exF2 h xs (k := k + 1) (by omega) ht
    refine ⟨u, ?_, by rw [show k + (xs.length + 1) = k + 1 + xs.length by omega]; exact hu⟩
    show (body x s >>= forS body xs) = _
    rw [e]
    exact e2
theorem exAt {α : Type} {xs : List α} {z : Int} {k : Nat} (hz : z = (k : Int)) (h : k < xs.length) : ∃ v, atI xs z = some v ∧ True := by
  subst hz
  exact ⟨_, atI_nat h, trivial⟩
theorem exIns {α : Type} {xs : List α} {z : Int} {k : Nat} {x : α} (hz : z = (k : Int)) (h : k < 100000) (hl : xs.length < 90000) : ∃ v, insM xs z x = some v ∧ v.length ≤ xs.length + 1 := by
  subst hz
  refine ⟨_, if_pos ⟨sz_t (by omega), by omega, by omega⟩, ?_⟩
  simp only [List.length_append, List.length_take, List.length_drop, List.length_cons, List.length_nil]
  omega
theorem spoilt_ok (pot : List Int) {n : Nat} (h0 : 0 < n) {ps : List (Int × Int)} (hl : ps.length ≤ 200) : ∃ r, m__law_spoilt pot (n : Int) ps = some r ∧ r.1.2.length ≤ 300 := by
  unfold m__law_spoilt
  refine exS (exB (exD pot (n := 9) rfl (by decide)) fun d hd => ?_)
  obtain ⟨k, hk, hk9⟩ := hd
  refine exB (P := fun v : Int => ∃ c : Nat, v = (c : Int) ∧ c ≤ 2) ?_ fun c hc => ?_
  · rw [hk]
    have : ∀ k : Nat, k < 9 → ∃ v, atI ([(0 : Int), (1 : Int), (2 : Int), (0 : Int), (0 : Int), (0 : Int), (0 : Int), (1 : Int), (0 : Int)]) (k : Int) = some v ∧ ∃ c : Nat, v = (c : Int) ∧ c ≤ 2 := by
      intro k hk
      refine ⟨_, atI_nat (by simpa using hk), ?_⟩
      match k, hk with
      | 0, _ => exact ⟨0, rfl, by omega⟩
      | 1, _ => exact ⟨1, rfl, by omega⟩
      | 2, _ => exact ⟨2, rfl, by omega⟩
      | 3, _ => exact ⟨0, rfl, by omega⟩
      | 4, _ => exact ⟨0, rfl, by omega⟩
      | 5, _ => exact ⟨0, rfl, by omega⟩
      | 6, _ => exact ⟨0, rfl, by omega⟩
      | 7, _ => exact ⟨1, rfl, by omega⟩
      | 8, _ => exact ⟨0, rfl, by omega⟩
    exact this k hk9
  obtain ⟨c, rfl, hc2⟩ := hc
  rw [rngM0 (by omega)]
  refine exS (exB (exF (I := fun s : List (Int × Int) × List Int => s.1.length ≤ 200) (fun x s hs => ?_) _ (s := (ps, d.2)) hl) fun s1 h1 => ?_)
  · unfold m__law_spoilt_b1
    refine exB (P := fun s : List (Int × Int) × List Int => s.1.length ≤ 200) ?_ fun v hv => exR hv
    refine exS (exI (fun hb => ?_) (fun _ => exR hs))
    have hp : 0 < s.1.length := by
      have := of_decide_eq_true hb
      omega
    refine exS (exB (exD s.2 (n := s.1.length) rfl hp) fun d hd => ?_)
    obtain ⟨k, hk, hkl⟩ := hd
    refine exB (P := fun v : (Int × Int) × List (Int × Int) => v.2.length ≤ 200) ?_ fun v hv => exR hv
    rw [hk, popAt_eq hkl (by omega)]
    refine exR ?_
    show (s.1.eraseIdx k).length ≤ 200
    rw [List.length_eraseIdx]
    split <;> omega
  refine exB (P := fun s : List (Int × Int) × List Int => s.1.length ≤ 201) ?_ fun s2 h2 => ?_
  · refine exS (exI (fun _ => ?_) (fun _ => exR (by show s1.1.length ≤ 201; have : s1.1.length ≤ 200 := h1; omega)))
    refine exS (exB (exD _ (n := n) rfl h0) fun a ha => ?_)
    refine exS (exB (exD _ (n := n) rfl h0) fun b hb => ?_)
    refine exS (exB (exD _ (n := s1.1.length + 1) (by omega) (by omega)) fun e he => ?_)
    obtain ⟨k, hk, hkl⟩ := he
    have h1 : s1.1.length ≤ 200 := h1
    exact exS (exB (exIns hk (by omega) (by omega)) fun v hv => exR (by show v.length ≤ 201; omega))
  refine exB (P := fun s : List (Int × Int) × List Int => s.1.length ≤ 202) ?_ fun s3 h3 => ?_
  · refine exS (exI (fun _ => ?_) (fun _ => exR (by show s2.1.length ≤ 202; have : s2.1.length ≤ 201 := h2; omega)))
    refine exS (exB (exD _ (n := 5) rfl (by decide)) fun a ha => ?_)
    refine exB (P := fun v : List Int => v.length = 5) ⟨_, rfl, rfl⟩ fun w hw => ?_
    refine exS (exB (exD _ (n := 5) rfl (by decide)) fun b hb => ?_)
    obtain ⟨k, hk, hkl⟩ := hb
    refine exB (exAt hk (by rw [hw]; exact hkl)) fun z _ => ?_
    refine exS (exS (exB (exD _ (n := n) rfl h0) fun e _ => ?_))
    refine exB (P := fun _ => True) ?_ fun f _ => ?_
    · refine exS (exB (exD _ (n := 2) rfl (by decide)) fun g _ => ?_)
      exact exS (exS (exI (fun _ => exS (exR trivial)) fun _ => exR trivial))
    refine exS (exB (exD _ (n := s2.1.length + 1) (by omega) (by omega)) fun g hg => ?_)
    obtain ⟨k, hk, hkl⟩ := hg
    have h2 : s2.1.length ≤ 201 := h2
    exact exS (exB (exIns hk (by omega) (by omega)) fun v hv => exR (by show v.length ≤ 202; omega))
  refine exB (P := fun _ => True) ?_ fun s4 _ => ?_
  · refine exS (exI (fun _ => ?_) (fun _ => exR trivial))
    refine exS (exB (exD _ (n := 5) rfl (by decide)) fun a ha => ?_)
    refine exB (P := fun v : List Int => v.length = 6) ⟨_, rfl, rfl⟩ fun w hw => ?_
    refine exS (exB (exD _ (n := 6) rfl (by decide)) fun b hb => ?_)
    obtain ⟨k, hk, hkl⟩ := hb
    exact exB (exAt hk (by rw [hw]; exact hkl)) fun z _ => exR trivial
  refine exB (P := fun s : List (Int × Int) × List Int × Int => s.1.length ≤ 300) ?_ fun s5 h5 => exS (exR h5)
  refine exS (exI (fun _ => ?_) (fun _ => exR (by show s3.1.length ≤ 300; have : s3.1.length ≤ 202 := h3; omega)))
  refine exS (exS (exB (exD _ (n := 6) rfl (by decide)) fun a ha => ?_))
  obtain ⟨k, hk, hk6⟩ := ha
  refine exS (exB (P := fun v : Int => v = 0 ∨ v = 1) ?_ fun o ho => ?_)
  · refine exR ?_
    split
    · exact .inr rfl
    · exact .inl rfl
  refine exS (exS (exB (exD _ (n := 8) rfl (by decide)) fun c8 hc8 => ?_))
  obtain ⟨q, hq, hq8⟩ := hc8
  rw [hq, rngM0 (by omega)]
  refine exS (exB (exF2 (N := 8) (I := fun k (s : List (Int × Int) × List Int) => s.1.length ≤ k) (fun x j s hj hs => ?_) _ (k := 0) (s := ([], c8.2)) (by rw [tab_len]; omega) (Nat.le_refl _)) fun t ht => exR ?_)
  · unfold m__law_spoilt_b2
    have hm : ∃ m : Nat, (1 + a.1 : Int) + 2 * o = (m : Int) ∧ 0 < m := by
      rw [hk]
      rcases ho with rfl | rfl
      · exact ⟨1 + k, by omega, by omega⟩
      · exact ⟨3 + k, by omega, by omega⟩
    obtain ⟨m, hm, hm0⟩ := hm
    have hmu : mulM (2 : Int) o = some (2 * o) := if_pos (.inl ⟨by decide, by decide⟩)
    have hx : ∃ v, (mulM (2 : Int) o >>= fun t => some ((1 + a.1 : Int) + t)) = some v ∧ v = (m : Int) := by
      rw [hmu]
      exact ⟨_, rfl, hm⟩
    refine exB hx fun y hy => exB (exD _ hy hm0) fun d1 _ => exS (exS (exS (exB hx fun y2 hy2 => exB (exD _ hy2 hm0) fun d2 _ => exS (exS ?_))))
    have hs : s.1.length ≤ j := hs
    have : ∃ v, appM s.1 (d1.1 - o, d2.1 - o) = some v ∧ v.length = s.1.length + 1 := by
      unfold appM
      rw [sz_t (by omega)]
      exact ⟨_, rfl, by simp⟩
    exact exB this fun v hv => exR (by show v.length ≤ j + 1; omega)
  · have ht : t.1.length ≤ 0 + (tab q fun i => (i : Int)).length := ht
    rw [tab_len] at ht
    show t.1.length ≤ 300
    omega
end My

namespace My
open PySem L2 Sim PyProof.Rows
/-! ### what is due, and what comes -/
def tw (w : Str) (x : Int) : PyData := .tuple [.str w, .int x]
def Oc.due (n : Int) : Oc → PyData
  | .fine => tw "fine" n
  | .size => tw "size" n
  | .elem v => tw "element" v
  | .ring q => th "ring" q
  | .join q => th "join" q
  | .meet q => th "meet" q
def bad1 (n : Int) (p : Int × Int) : Option Int := bif (decide (p.1 < 0) || decide (n ≤ p.1)) then some p.1 else bif (decide (p.2 < 0) || decide (n ≤ p.2)) then some p.2 else none
def ocR (n : Nat) (R : Nat → Nat → Bool) : Oc :=
  match ff n fun a b => R a b && R b a with
  | some q => .ring q
  | none => match ff n fun a b => (lab n R a b).isNone with
    | some q => .join q
    | none => match ff n fun a b => (lab n (fun a b => R b a) a b).isNone with
      | some q => .meet q
      | none => .fine
def ocOf (n : Int) (ps : List (Int × Int)) : Oc := bif (decide (n < 1) || decide (12 < n)) then .size else match ps.findSome? (bad1 n) with
  | some v => .elem v
  | none => ocR n.toNat (clo n.toNat ps)
theorem inR_of {n : Nat} {ps : List (Int × Int)} (h : ps.findSome? (bad1 (n : Int)) = none) : InR n ps := fun p hp => by
  have := List.findSome?_eq_none_iff.mp h p hp
  unfold bad1 at this
  cases h1 : (decide (p.1 < 0) || decide ((n : Int) ≤ p.1)) with
  | true => rw [h1] at this; cases this
  | false =>
    rw [h1] at this
    cases h2 : (decide (p.2 < 0) || decide ((n : Int) ≤ p.2)) with
    | true =>
      have this : (bif (decide (p.2 < 0) || decide ((n : Int) ≤ p.2)) then some p.2 else none) = none := this
      rw [h2] at this; cases this
    | false =>
      rw [Bool.or_eq_false_iff, decide_eq_false_iff_not, decide_eq_false_iff_not] at h1 h2
      exact ⟨p.1.toNat, p.2.toNat, by omega, by omega, by rw [Int.toNat_of_nonneg (by omega), Int.toNat_of_nonneg (by omega)]⟩
theorem pair_loop {ρ : Type} {n : Int} {g : Int → ρ} {b2 : Int → Unit → Option (Stp Unit ρ)} (h2 : ∀ x, b2 x () = some (bif (decide (x < 0) || decide (n ≤ x)) then .rt (g x) else .nx ())) (p : Int × Int) :
    (forL b2 [p.1, p.2] () >>= Sum.elim (fun _ => some (Stp.nx ())) (fun r => some (Stp.rt r)) : Option (Stp Unit ρ)) = some (match (bad1 n p).map g with | some r => .rt r | none => .nx ()) := by
  have := forL_find (body := b2) (a := id) (p := fun x => decide (x < 0) || decide (n ≤ x)) (g := g) (xs := [p.1, p.2]) (fun x _ => h2 x)
  rw [List.map_id] at this
  rw [this]
  unfold bad1
  rw [List.find?_cons, List.find?_cons, List.find?_nil]
  cases (decide (p.1 < 0) || decide (n ≤ p.1)) with
  | true => rfl
  | false =>
    cases (decide (p.2 < 0) || decide (n ≤ p.2)) with
    | true => rfl
    | false => rfl
theorem bad_loop {ρ : Type} {n : Int} {g : Int → ρ} {b1 : Int × Int → Unit → Option (Stp Unit ρ)} (h : ∀ p, b1 p () = some (match (bad1 n p).map g with | some r => .rt r | none => .nx ())) (ps : List (Int × Int)) :
    forL b1 ps () = some (match ps.findSome? (bad1 n) with | some v => .inr (g v) | none => .inl ()) := by
  have := forL_some (body := b1) (a := id) (g := fun p => (bad1 n p).map g) (xs := ps) (fun p _ => h p)
  rw [List.map_id] at this
  rw [this]
  have : ps.findSome? (fun p => (bad1 n p).map g) = (ps.findSome? (bad1 n)).map g := by
    induction ps with
    | nil => rfl
    | cons p ps ih =>
      rw [List.findSome?_cons, List.findSome?_cons]
      cases bad1 n p with
      | none => exact ih (by
          have := forL_some (body := b1) (a := id) (g := fun p => (bad1 n p).map g) (xs := ps) (fun p _ => h p)
          rwa [List.map_id] at this)
      | some v => rfl
  rw [this]
  cases ps.findSome? (bad1 n) <;> rfl
theorem made_oc {n : Nat} {R : Nat → Nat → Bool} {k : Int} : made n R = (ocR n R).ex k := by
  unfold made ocR
  cases ff n fun a b => R a b && R b a with
  | some q => rfl
  | none =>
    cases ff n fun a b => (lab n R a b).isNone with
    | some q => rfl
    | none =>
      cases ff n fun a b => (lab n (fun a b => R b a) a b).isNone with
      | some q => rfl
      | none => rfl
theorem init_oc (n : Int) (ps : List (Int × Int)) : ∃ r, m_Order___init___X n ps = some r ∧ (match (ocOf n ps).ex n with | some e => r = .inl e | none => ∃ o, r = .inr o ∧ m_Order___len__ o = some n) := by
  unfold ocOf
  cases h0 : (decide (n < 1) || decide (12 < n)) with
  | true =>
    refine ⟨.inl ⟨"BadSize", [("size", .int n)]⟩, ?_, rfl⟩
    unfold m_Order___init___X
    rw [h0]
    rfl
  | false =>
    rw [Bool.or_eq_false_iff, decide_eq_false_iff_not, decide_eq_false_iff_not] at h0
    obtain ⟨k, rfl⟩ : ∃ k : Nat, n = (k : Int) := ⟨n.toNat, by omega⟩
    rw [Int.toNat_natCast]
    show ∃ r, m_Order___init___X (k : Int) ps = some r ∧ (match (Oc.ex (k : Int) (match ps.findSome? (bad1 (k : Int)) with | some v => .elem v | none => ocR k (clo k ps))) with | some e => r = .inl e | none => ∃ o, r = .inr o ∧ m_Order___len__ o = some (k : Int))
    cases hb : ps.findSome? (bad1 (k : Int)) with
    | some v =>
      refine ⟨.inl ⟨"NotElement", [("value", .int v)]⟩, ?_, rfl⟩
      unfold m_Order___init___X
      have e1 : ((decide ((k : Int) < 1)) || (decide ((12 : Int) < (k : Int)))) = false := by simp; omega
      rw [e1]
      have := bad_loop (b1 := m_Order___init___X_b1 (k : Int)) (n := (k : Int)) (g := fun v => (Sum.inl ⟨"NotElement", [("value", .int v)]⟩ : Xn ⊕ m_Order)) (fun p => pair_loop (b2 := m_Order___init___X_b2 (k : Int)) (fun x => by
        unfold m_Order___init___X_b2
        cases (decide (x < 0) || decide ((k : Int) ≤ x)) <;> rfl) p) ps
      rw [hb] at this
      simp only [Option.bind_eq_bind, bs, cfa]
      rw [this]
      rfl
    | none =>
      obtain ⟨r, e, hr⟩ := initX_in (n := k) (ps := ps) (by omega) (by omega) (inR_of hb)
      refine ⟨r, e, ?_⟩
      rw [made_oc (k := (k : Int))] at hr
      show match (ocR k (clo k ps)).ex (k : Int) with | some e => r = .inl e | none => ∃ o, r = .inr o ∧ m_Order___len__ o = some (k : Int)
      cases hz : (ocR k (clo k ps)).ex (k : Int) with
      | some e => rw [hz] at hr; exact hr
      | none =>
        rw [hz] at hr
        obtain ⟨o, h1, h2, h3⟩ := hr
        refine ⟨o, h1, ?_⟩
        unfold m_Order___len__
        rw [h3, tab_len]
        rfl
theorem to_th (w : Str) (q : Nat × Nat) : toDM (.tuple [.str w, .int (q.1 : Int), .int (q.2 : Int)]) = some (th w q) := by
  unfold toDM th
  simp [PyData.depth, PyData.depthAll]
theorem due_oc (n : Int) (ps : List (Int × Int)) : m__law_first_error n ps = some ((ocOf n ps).due n) := by
  unfold ocOf
  cases h0 : (decide (n < 1) || decide (12 < n)) with
  | true =>
    unfold m__law_first_error
    rw [h0]
    rfl
  | false =>
    have h9 := h0
    rw [Bool.or_eq_false_iff, decide_eq_false_iff_not, decide_eq_false_iff_not] at h0
    obtain ⟨k, rfl⟩ : ∃ k : Nat, n = (k : Int) := ⟨n.toNat, by omega⟩
    rw [Int.toNat_natCast]
    show m__law_first_error (k : Int) ps = some (Oc.due (k : Int) (match ps.findSome? (bad1 (k : Int)) with | some v => .elem v | none => ocR k (clo k ps)))
    have hl := bad_loop (b1 := m__law_first_error_b1 (k : Int)) (n := (k : Int)) (g := fun v => tw "element" v) (fun p => pair_loop (b2 := m__law_first_error_b2 (k : Int)) (fun x => by
        unfold m__law_first_error_b2
        cases (decide (x < 0) || decide ((k : Int) ≤ x)) <;> rfl) p) ps
    unfold m__law_first_error
    rw [h9]
    simp only [Option.bind_eq_bind, bs, cfa]
    rw [hl]
    cases hb : ps.findSome? (bad1 (k : Int)) with
    | some v => rfl
    | none =>
      have hk : k ≤ 12 := by omega
      simp only [bs, sel]
      rw [lcl_eq hk]
      simp only [bs]
      generalize clo k ps = R
      rw [rngM0 (by omega)]
      simp only [bs]
      rw [ff_loopG (b2 := m__law_first_error_b4 (tab2 k R)) (p := fun a b => R a b && R b a) (g := fun a b => th "ring" (a, b)) hk]
      · unfold ocR
        cases ff k fun a b => R a b && R b a with
        | some q => rfl
        | none =>
          simp only [bs, sel]
          rw [llack_eq hk]
          simp only [bs]
          cases ff k fun a b => (lab k R a b).isNone with
          | some q =>
            show toDM (.tuple [.str "join", .int (q.1 : Int), .int (q.2 : Int)]) >>= (fun a => some a) = _
            rw [to_th]
            rfl
          | none =>
            have ht : forS (m__law_first_error_b5 (k : Int) (tab2 k R)) (tab k fun i => (i : Int)) [] = some (tab2 k fun a b => R b a) := by
              refine forS_tab (body := m__law_first_error_b5 (k : Int) (tab2 k R)) (a := fun i : Nat => (i : Int)) (n := k) (S := fun j => tab j fun a => tab k fun b => R b a) (fun a ha => ?_)
              unfold m__law_first_error_b5
              rw [rngM0 (n := k) (by omega)]
              have e : mapS (fun x2771 => (atI (tab2 k R) x2771 >>= fun t2774 => atI t2774 (a : Int))) (tab k fun i => (i : Int)) = some (tab k fun b => R b a) := mapS_tab (by omega) fun b hb => atI2 hb ha
              show (mapS (fun x2771 => (atI (tab2 k R) x2771 >>= fun t2774 => atI t2774 (a : Int))) (tab k fun i => (i : Int)) >>= fun r => appM _ r >>= fun z => some z) = _
              rw [e]
              show (appM _ _ >>= fun z => some z) = _
              unfold appM
              rw [tab_len, sz_t (by omega)]
              show some (_ ++ [_]) = some _
              unfold tab
              rw [List.range_succ, List.map_append]
              rfl
            show (forS (m__law_first_error_b5 (k : Int) (tab2 k R)) (tab k fun i => (i : Int)) []).bind _ = _
            rw [ht]
            simp only [bs]
            rw [llack_eq hk]
            simp only [bs]
            cases ff k fun a b => (lab k (fun a b => R b a) a b).isNone with
            | some q =>
              show toDM (.tuple [.str "meet", .int (q.1 : Int), .int (q.2 : Int)]) >>= (fun a => some a) = _
              rw [to_th]
              rfl
            | none => rfl
      · intro a ha
        unfold m__law_first_error_b3
        simp only [Option.bind_eq_bind, bs]
        rw [show (a : Int) + 1 = ((a + 1 : Nat) : Int) by simp, rngM1 (i := a + 1) (n := k) (by omega) (by omega)]
        rfl
      · intro a b ha hb
        unfold m__law_first_error_b4
        have h1 := atI2 (R := R) ha hb
        have h2 := atI2 (R := R) hb ha
        rw [h1, h2]
        have h3 := to_th "ring" (a, b)
        unfold andO
        cases R a b with
        | false => rfl
        | true =>
          cases R b a with
          | false => rfl
          | true =>
            show (toDM (.tuple [.str "ring", .int ((a : Nat) : Int), .int ((b : Nat) : Int)]) >>= fun a => some (Stp.rt a)) = _
            rw [h3]
            rfl
theorem ser9 {α β γ : Type} {f : α → γ} {g : β → γ} {a : β} : Sum.elim f g (Sum.inr a) = g a := Eq.trans (Eq.refl _) (Eq.refl _)
theorem fine_in {n : Int} {ps : List (Int × Int)} (h : ocOf n ps = .fine) : lenM n = some n := by
  unfold ocOf at h
  cases h0 : (decide (n < 1) || decide (12 < n)) with
  | true => rw [h0] at h; cases h
  | false =>
    rw [Bool.or_eq_false_iff, decide_eq_false_iff_not, decide_eq_false_iff_not] at h0
    unfold lenM
    rw [decide_eq_true (by constructor <;> omega)]
    rfl
theorem got_oc (n : Int) (ps : List (Int × Int)) : m__law_outcome n ps = some ((ocOf n ps).due n) := by
  obtain ⟨r, e, hr⟩ := init_oc n ps
  unfold m__law_outcome
  rw [e]
  cases h : ocOf n ps with
  | fine =>
    rw [h] at hr
    obtain ⟨o, rfl, h2⟩ := hr
    simp only [Option.bind_eq_bind, bs, ser9, iss]
    rw [show noneD PyData.none = true from rfl]
    simp only [Bool.and_self, ctr]
    rw [h2]
    simp only [bs]
    rw [fine_in h]
    rfl
  | size => rw [h] at hr; cases hr; rfl
  | elem v => rw [h] at hr; cases hr; rfl
  | ring q =>
    rw [h] at hr
    have hr : r = .inl (two "Ring" q) := hr
    subst hr
    simp only [Option.bind_eq_bind, bs, sel]
    rw [show (["BadSize"] : List Str).contains (two "Ring" q).cls = false from rfl, show (["NotElement"] : List Str).contains (two "Ring" q).cls = false from rfl, show (["Ring"] : List Str).contains (two "Ring" q).cls = true from rfl]
    simp only [cfa, ctr]
    rw [show xI (two "Ring" q) "first" = some (q.1 : Int) from rfl, show xI (two "Ring" q) "second" = some (q.2 : Int) from rfl]
    simp only [bs]
    rw [to_th]
    rfl
  | join q =>
    rw [h] at hr
    have hr : r = .inl (two "NoJoin" q) := hr
    subst hr
    simp only [Option.bind_eq_bind, bs, sel]
    rw [show (["BadSize"] : List Str).contains (two "NoJoin" q).cls = false from rfl, show (["NotElement"] : List Str).contains (two "NoJoin" q).cls = false from rfl, show (["Ring"] : List Str).contains (two "NoJoin" q).cls = false from rfl, show (["NoJoin"] : List Str).contains (two "NoJoin" q).cls = true from rfl]
    simp only [cfa, ctr]
    rw [show xI (two "NoJoin" q) "first" = some (q.1 : Int) from rfl, show xI (two "NoJoin" q) "second" = some (q.2 : Int) from rfl]
    simp only [bs]
    rw [to_th]
    rfl
  | meet q =>
    rw [h] at hr
    have hr : r = .inl (two "NoMeet" q) := hr
    subst hr
    simp only [Option.bind_eq_bind, bs, sel]
    rw [show (["BadSize"] : List Str).contains (two "NoMeet" q).cls = false from rfl, show (["NotElement"] : List Str).contains (two "NoMeet" q).cls = false from rfl, show (["Ring"] : List Str).contains (two "NoMeet" q).cls = false from rfl, show (["NoJoin"] : List Str).contains (two "NoMeet" q).cls = false from rfl, show (["NoMeet"] : List Str).contains (two "NoMeet" q).cls = true from rfl]
    simp only [cfa, ctr]
    rw [show xI (two "NoMeet" q) "first" = some (q.1 : Int) from rfl, show xI (two "NoMeet" q) "second" = some (q.2 : Int) from rfl]
    simp only [bs]
    rw [to_th]
    rfl
def Oc.kinds : Oc → List Bool
  | .fine => [false, false, false, false, false, false]
  | .size => [true, true, false, false, false, false]
  | .elem _ => [true, false, true, false, false, false]
  | .ring _ => [true, false, false, true, false, false]
  | .join _ => [true, false, false, false, true, false]
  | .meet _ => [true, false, false, false, false, true]
theorem classes_oc (n : Int) (ps : List (Int × Int)) : m__law_classes n ps = some (ocOf n ps).kinds := by
  obtain ⟨r, e, hr⟩ := init_oc n ps
  unfold m__law_classes
  rw [e]
  cases h : ocOf n ps with
  | fine =>
    rw [h] at hr
    obtain ⟨o, rfl, h2⟩ := hr
    rfl
  | size => rw [h] at hr; cases hr; rfl
  | elem v => rw [h] at hr; cases hr; rfl
  | ring q => rw [h] at hr; cases hr; rfl
  | join q => rw [h] at hr; cases hr; rfl
  | meet q => rw [h] at hr; cases hr; rfl
theorem eqv_due (n : Int) (o : Oc) : PyData.eqv (o.due n) (o.due n) = true := by
  cases o <;> simp [Oc.due, tw, th, PyData.eqv, PyData.eqvAll]
theorem tail_due (n : Int) (o : Oc) : ∃ xs, tailD (o.due n) = some xs ∧ xs.length ≤ 2 := by
  cases o <;> exact ⟨_, rfl, by simp⟩
def word : Oc → Str
  | .fine => "fine"
  | .size => "size"
  | .elem _ => "element"
  | .ring _ => "ring"
  | .join _ => "join"
  | .meet _ => "meet"
theorem ix_due (n : Int) (o : Oc) : ixD (o.due n) 0 = some (.str (word o)) := by
  cases o <;> rfl
theorem law_true (sc : List Int) : m_law sc = some true := by
  unfold m_law
  obtain ⟨pot, e1⟩ := pot_eq sc
  rw [e1]
  simp only [Option.bind_eq_bind, bs]
  obtain ⟨ms, p2, e2, hM, hl⟩ := masks_eq pot (most := 7) (by decide)
  rw [show m__law_masks pot 7 = some (nts ms, p2) from e2]
  simp only [bs]
  rw [nts_len, covers_eq (by omega)]
  simp only [bs]
  have hc : (covs ms).length ≤ 200 := Nat.le_trans (covs_len ms) (Nat.le_trans (Nat.mul_le_mul hl hl) (by decide))
  obtain ⟨x, e3, h3⟩ := spoilt_ok p2 (n := ms.length) hM.ne hc
  rw [e3]
  simp only [bs]
  rw [due_oc]
  simp only [bs]
  rw [got_oc]
  simp only [bs]
  generalize hO : ocOf x.1.1 x.1.2 = o
  rw [eqv_due]
  simp only [decide_true, Bool.not_true, Bool.or_self, cfa]
  obtain ⟨xs, e4, h4⟩ := tail_due x.1.1 o
  rw [e4]
  simp only [bs]
  have e5 : lcS (fun _ : Int => some true) (fun x => m__law_int x) xs = some (xs.map fun _ => true) := by
    have := lcS_map (xs := xs) (a := id) (p' := fun _ : Int => some true) (f := fun x => m__law_int x) (p := fun _ => true) (g := fun _ => true) (by omega) (fun _ _ => rfl) (fun _ _ => rfl)
    rw [List.map_id] at this
    rw [this, List.filter_eq_self.mpr (fun _ _ => rfl)]
  rw [e5]
  simp only [bs]
  have e6 : ((xs.map fun _ => true).all id) = true := by
    rw [List.all_map]
    exact List.all_eq_true.mpr fun _ _ => rfl
  rw [e6]
  simp only [Bool.not_true, cfa]
  rw [ix_due]
  simp only [bs]
  have e7 : mapS (fun x3367 => some (PyData.eqv (.str (word o)) (.str x3367))) ([("fine" : Str), ("size" : Str), ("element" : Str), ("ring" : Str), ("join" : Str), ("meet" : Str)]) = some (([("fine" : Str), ("size" : Str), ("element" : Str), ("ring" : Str), ("join" : Str), ("meet" : Str)]).map fun w => decide (word o = w)) := by
    exact mapS_map (by decide) fun w _ => congrArg some (eqvD dtS (word o) w)
  rw [e7]
  simp only [bs]
  rw [classes_oc, hO]
  simp only [bs]
  have e8 : PyData.eqv (.str (word o)) (.str "fine") = decide (word o = "fine") := eqvD dtS (word o) "fine"
  rw [e8]
  cases o <;> rfl
end My

set_option maxHeartbeats 0
namespace My
open PySem PySem.Spec PyProof.Rows L2 Sim
theorem ob_eq (s : PySem.W.SharedT) : ob s = hk.obs s.abs := obsXG_eq (HandSHeadRun.getT_eq s)
section
open PySem.W PySem.Calls HandSHeadRun
end
theorem glo_law (K : PySem.W.Frag) (mg : Str → Option Value) (T : Tx K mg) : mg "law" = some (.ref (He.ga K "law")) := T.glo 28 rfl
end My
open PySem PySem.W PySem.Calls PyProof.Rows
theorem PySem.Challenge.cw_askedpoints_k02_refused_orders_holds : PySem.Challenge.rw_askedpoints_k02_refused_orders.Holds := by
  w_on; o_law
  refine HandSHeadRun.head_any (r := OpenLaw.row PySem.Challenge.rw_askedpoints_k02_refused_orders) (q := view (OpenLaw.row PySem.Challenge.rw_askedpoints_k02_refused_orders).prog [32]) (H := My.hk) (ob := My.ob) (M := 9000) (loose := My.loose) (d := HandSHeadRun.topDef (OpenLaw.row PySem.Challenge.rw_askedpoints_k02_refused_orders).prog 32) (kwd := []) My.ob_eq
    (by kernel_rfl) (fun s => by kernel_rfl) My.run (by kernel_rfl) (by kernel_rfl) (by kernel_rfl) (by rfl) (by first | assumption | decide +kernel) (by decide +kernel) ⟨rfl, rfl, rfl, rfl, rfl, by decide +kernel⟩ ?hw ?hc
  case hw => w_witness2
  case hc =>
    refine L2.walk_ofE (l := PySem.Challenge.rw_askedpoints_k02_refused_orders) (n := 63) (k := 6) (x := "_law_script") (CX := L2.CX0) rfl (by decide) (by kernel_rfl) ⟨rfl, by decide, by decide⟩ ?F (fun _ _ _ _ z => z)
    intro w mg fa h Y G hmg0
    obtain ⟨K, KX, c⟩ := Y
    have T : My.Tx K mg := Sim.TxX.mk' KX G c
    have e : (HandSHeadRun.topDef (OpenLaw.row PySem.Challenge.rw_askedpoints_k02_refused_orders).prog 32).name = ("law" : PySem.Str) := by kernel_rfl
    rw [e, My.glo_law K mg T] at hmg0
    cases hmg0
    obtain ⟨fd, F, hF⟩ := My.ok_law (w := w) T
    exact ⟨K, fd, _, KX, fun s u => F.bindsA (ps := ["_law_script"]) (fun kV doc pm an cdv ct us hl => by (cases us with | nil => cases hl | cons a t => cases t with | nil => rfl | cons b t => cases hl)) s [u] rfl, fun H a ns hl _ hS => ⟨H, (ns, ()), true, Evl.Ex.refl _, ⟨.ref a, [], rfl, ⟨a, rfl, hS⟩, rfl⟩, My.law_true ns, fun v H2 G2 u hv => hv⟩, fun base _ _ => hF base⟩
