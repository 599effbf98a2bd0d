import PyProof.Rows.All
import Wide.All
import OpenK.AllK
import Wide.FinOn
import HandS.ForMost
import HandS.Evl
import HandS.SortInts
import HandS.Wide
import HandS.More
import HandS.IsInst
import HandS.Defaults
import HandS.HeadHook1
import HandS.HeadHook2
import KE.DataEq
import HandS.HeadHook3
import HandS.Exc
import HandS.Conv
import KE.KSuper
import KE.KExcSuper
import HandS.ExcInit
import HandS.Nested
import KE.KExcInit
import HandS.ExcField
import HandS.ExcIs
import HandS.ExcOwn
import HandS.TryMany
import HandS.CallSlots
import HandS.Property
import KE.KStateDown
import Lean
import HandS.WordsExc
import HandS.Head0
import HandS.Head1
import HandS.Head2
import HandS.HeadEnd
import PySem.Challenge.RW_askedpoints_k07_joins_of_lists
set_option Elab.async false
set_option linter.all false
set_option maxRecDepth 100000
/-! Sim: what a reading does, told by plain Lean data (mirrors). -/
namespace Sim
open PySem L2 Evl

/-! ### heaps: the data heap G below the heap H -/
structure Up (G H G2 H2 : Hp) : Prop where
  gg : Ex G G2
  gh : Ex G2 H2
  hh : Ex H H2
  nw : ∀ a, H a ≠ none → G a = none → G2 a = none
theorem Up.refl {G H : Hp} (e : Ex G H) : Up G H G H := ⟨Ex.refl _, e, Ex.refl _, fun _ _ h => h⟩
theorem Up.trans {G H G1 H1 G2 H2 : Hp} (a : Up G H G1 H1) (b : Up G1 H1 G2 H2) : Up G H G2 H2 :=
  ⟨a.gg.trans b.gg, b.gh, a.hh.trans b.hh, fun x h1 h2 => b.nw x (fun z => h1 (by
    cases q : H x with
    | none => rfl
    | some o => rw [a.hh x o q] at z; cases z)) (a.nw x h1 h2)⟩
/-- nothing new is data -/
theorem Up.same {G H H2 : Hp} (e : Ex G H) (h : Ex H H2) : Up G H G H2 := ⟨Ex.refl _, e.trans h, h, fun _ _ q => q⟩
theorem Up.lift {G Gw H G2 H2 : Hp} (u : Up G H G2 H2) (e1 : Ex G Gw) (e2 : Ex Gw H) : ∃ G3, Up Gw H G3 H2 ∧ Ex G2 G3 := by
  refine ⟨fun a => match H a with | none => G2 a | some _ => Gw a, ⟨fun a o h => ?_, fun a o h => ?_, u.hh, fun a h1 h2 => ?_⟩, fun a o h => ?_⟩
  · show (match H a with | none => G2 a | some _ => Gw a) = some o
    rw [e2 a o h]; exact h
  · have h' : (match H a with | none => G2 a | some _ => Gw a) = some o := h
    cases q : H a with
    | none => rw [q] at h'; exact u.gh a o h'
    | some o' =>
      rw [q] at h'
      exact u.hh a o (e2 a o h')
  · show (match H a with | none => G2 a | some _ => Gw a) = none
    cases q : H a with
    | none => exact absurd q h1
    | some o' => exact h2
  · show (match H a with | none => G2 a | some _ => Gw a) = some o
    cases q : H a with
    | none => exact h
    | some o' =>
      show Gw a = some o
      cases r : G a with
      | none => rw [u.nw a (by rw [q]; simp) r] at h; cases h
      | some o2 =>
        have := u.gg a o2 r
        rw [h] at this
        cases this
        exact e1 a _ r
theorem Up.lay {G H : Hp} {p : Addr} {o : HO} (e : Ex G H) (n : H p = none) : Up G H (upd G p o) (upd H p o) := by
  refine ⟨Ex.new (fresh_back e n), fun a u h => ?_, Ex.new n, fun a h1 h2 => ?_⟩
  · by_cases q : a = p
    · subst q; rw [upd_same] at h ⊢; exact h
    · rw [upd_ne q] at h ⊢; exact e a u h
  · by_cases q : a = p
    · subst q; exact absurd n h1
    · rw [upd_ne q]; exact h2

/-! ### data as it stands in a heap -/
structure Rep (α : Type) where
  r : Hp → V → α → Prop
  mono : ∀ {H H' : Hp} {v : V} {x : α}, Ex H H' → r H v x → r H' v x
/-- told by the value alone -/
def Rep.Sc {α : Type} (R : Rep α) : Prop := ∀ {H H' : Hp} {v : V} {x : α}, R.r H v x → R.r H' v x

def rI : Rep Int := ⟨fun _ v x => v = .int x, fun _ h => h⟩
def rB : Rep Bool := ⟨fun _ v x => v = .bl x, fun _ h => h⟩
def rS : Rep Str := ⟨fun _ v x => v = .str x, fun _ h => h⟩
def rU : Rep Unit := ⟨fun _ v _ => v = .non, fun _ h => h⟩
def rA : Rep Addr := ⟨fun _ v a => v = .ref a, fun _ h => h⟩
theorem scA : rA.Sc := fun h => h
theorem scI : rI.Sc := fun h => h
theorem scB : rB.Sc := fun h => h
theorem scS : rS.Sc := fun h => h
theorem scU : rU.Sc := fun h => h
def rL {α : Type} (R : Rep α) : Rep (List α) := ⟨fun H v xs => ∃ a vs, v = .ref a ∧ H a = some (.lst vs) ∧ Paired (R.r H) vs xs,
  fun e ⟨a, vs, h1, h2, h3⟩ => ⟨a, vs, h1, e a _ h2, Paired.mapP h3 fun _ _ => R.mono e⟩⟩
def rT {α : Type} (R : Rep α) : Rep (List α) := ⟨fun H v xs => ∃ a vs, v = .ref a ∧ H a = some (.tup vs) ∧ Paired (R.r H) vs xs,
  fun e ⟨a, vs, h1, h2, h3⟩ => ⟨a, vs, h1, e a _ h2, Paired.mapP h3 fun _ _ => R.mono e⟩⟩
def rP {α β : Type} (R : Rep α) (S : Rep β) : Rep (α × β) := ⟨fun H v p => ∃ a x y, v = .ref a ∧ H a = some (.tup [x, y]) ∧ R.r H x p.1 ∧ S.r H y p.2,
  fun e ⟨a, x, y, h1, h2, h3, h4⟩ => ⟨a, x, y, h1, e a _ h2, R.mono e h3, S.mono e h4⟩⟩
def rO {α : Type} (R : Rep α) : Rep (Option α) := ⟨fun H v o => match o with | none => v = .non | some x => R.r H v x,
  fun {H H' v o} e h => by cases o with | none => exact h | some x => exact R.mono e h⟩

theorem pr_get {R : V → α → Prop} : ∀ {vs : List V} {xs : List α} {i : Nat} {x : α}, Paired R vs xs → xs[i]? = some x → ∃ v, vs[i]? = some v ∧ R v x
  | _, _, _, _, .nil, e => by simp at e
  | _, _, 0, _, .cons r _, e => by simp at e; subst e; exact ⟨_, rfl, r⟩
  | _, _, i + 1, x, .cons _ t, e => by
    obtain ⟨u, h1, h2⟩ := pr_get (i := i) (x := x) t (by simpa using e)
    exact ⟨u, by simpa using h1, h2⟩
theorem pr_get' {R : V → α → Prop} : ∀ {vs : List V} {xs : List α} {i : Nat} {v : V}, Paired R vs xs → vs[i]? = some v → ∃ x, xs[i]? = some x ∧ R v x
  | _, _, _, _, .nil, e => by simp at e
  | _, _, 0, _, .cons r _, e => by simp at e; subst e; exact ⟨_, rfl, r⟩
  | _, _, i + 1, x, .cons _ t, e => by
    obtain ⟨u, h1, h2⟩ := pr_get' (i := i) (v := x) t (by simpa using e)
    exact ⟨u, by simpa using h1, h2⟩
theorem pr_app {R : V → α → Prop} : ∀ {vs : List V} {xs : List α} {vs' : List V} {xs' : List α}, Paired R vs xs → Paired R vs' xs' → Paired R (vs ++ vs') (xs ++ xs')
  | _, _, _, _, .nil, h => h
  | _, _, _, _, .cons r t, h => .cons r (pr_app t h)

/-! ### mirrors that may lack an answer -/
theorem bindS {α β : Type} {m : Option α} {f : α → Option β} {r : β} (h : (m >>= f) = some r) : ∃ x, m = some x ∧ f x = some r := by
  cases m with
  | none => exact absurd h (by simp)
  | some x => exact ⟨x, rfl, h⟩

/-! ### expressions -/
/-- te reads as m: the data heap is G, W is known to stand as well (cells that are only read) -/
def E {α : Type} (te : TE) (σ : L2.St) (G W : Hp) (R : Rep α) (m : Option α) : Prop :=
  ∀ x, m = some x → ∀ H, Ex G H → Ex W H → ∀ Q : VK, (∀ v H2 G2, Up G H G2 H2 → R.r G2 v x → Q v H2) → te σ H Q
def ET (tt : TT) (σ : L2.St) (W : Hp) (m : Option Bool) : Prop :=
  ∀ b, m = some b → ∀ H, Ex W H → ∀ Q : Bool → Hp → Prop, (∀ H2, Ex H H2 → Q b H2) → tt σ H Q
structure AR (ι : Type) where
  r : Hp → List V → ι → Prop
  mono : ∀ {H H' : Hp} {v : List V} {x : ι}, Ex H H' → r H v x → r H' v x
def aN : AR Unit := ⟨fun _ vs _ => vs = [], fun _ h => h⟩
def aC {α ι : Type} (R : Rep α) (A : AR ι) : AR (α × ι) := ⟨fun H vs p => ∃ v ws, vs = v :: ws ∧ R.r H v p.1 ∧ A.r H ws p.2,
  fun e ⟨v, ws, h1, h2, h3⟩ => ⟨v, ws, h1, R.mono e h2, A.mono e h3⟩⟩
def EA {ι : Type} (ta : TA) (σ : L2.St) (G W : Hp) (A : AR ι) (m : Option ι) : Prop :=
  ∀ x, m = some x → ∀ H, Ex G H → Ex W H → ∀ Q : List V → Hp → Prop, (∀ vs H2 G2, Up G H G2 H2 → A.r G2 vs x → Q vs H2) → ta σ H Q
section
variable {K : PySem.W.Frag} {σ : L2.St} {G H G' W W' : Hp} {ta tb te : TE} {t u : TT} {α β γ ι : Type} {R : Rep α} {S : Rep β} {T : Rep γ} {A : AR ι}
theorem E.mono {m : Option α} (e : Ex G G') (e' : Ex W W') (h : E te σ G W R m) : E te σ G' W' R m := fun x hx H e1 e2 Q q =>
  h x hx H (e.trans e1) (e'.trans e2) Q fun v H2 G2 up r => by
    obtain ⟨G3, u3, e3⟩ := up.lift e e1
    exact q v H2 G3 u3 (R.mono e3 r)
theorem ET.mono {m : Option Bool} (e : Ex W W') (h : ET t σ W m) : ET t σ W' m := fun x hx H e1 Q q => h x hx H (e.trans e1) Q q
theorem EA.mono {ta : TA} {m : Option ι} (e : Ex G G') (e' : Ex W W') (h : EA ta σ G W A m) : EA ta σ G' W' A m := fun x hx H e1 e2 Q q =>
  h x hx H (e.trans e1) (e'.trans e2) Q fun v H2 G2 up r => by
    obtain ⟨G3, u3, e3⟩ := up.lift e e1
    exact q v H2 G3 u3 (A.mono e3 r)
/-- a value that hangs on no heap -/
theorem E.s {m : Option α} (sc : R.Sc) (h : E te σ W W R m) : E te σ G W R m := fun x hx H e1 e2 Q q =>
  h x hx H e2 e2 Q fun v H2 G2 up r => q v H2 G (Up.same e1 up.hh) (sc r)
theorem e_var {i : Nat} {v : V} {x : α} (hi : σ[i]? = some (some v)) (hv : R.r G v x) : E (tVar i) σ G W R (some x) := fun y hy H e _ Q q => by
  cases hy
  exact ⟨v, hi, q v H G (Up.refl e) hv⟩
theorem e_c {v : V} {x : α} (hv : R.r G v x) : E (tC v) σ G W R (some x) := fun y hy H e _ Q q => by
  cases hy
  exact q v H G (Up.refl e) hv
theorem e_int {i : Int} : E (tC (.int i)) σ G W rI (some i) := e_c rfl
theorem e_bl {i : Bool} : E (tC (.bl i)) σ G W rB (some i) := e_c rfl
theorem e_str {i : Str} : E (tC (.str i)) σ G W rS (some i) := e_c rfl
theorem e_non : E (tC .non) σ G W rU (some ()) := e_c rfl
/-- an operator on values, as a mirror -/
def RR (r : R2) (R : Rep α) (S : Rep β) (T : Rep γ) (f : α → β → Option γ) : Prop :=
  ∀ v w x y z H G, R.r G v x → S.r G w y → f x y = some z → Ex G H → ∀ Q : VK, (∀ u H2 G2, Up G H G2 H2 → T.r G2 u z → Q u H2) → r v w H Q
theorem e_op {r : R2} {f : α → β → Option γ} {ma : Option α} {mb : Option β} (hr : RR r R S T f) (ha : E ta σ G W R ma) (hb : E tb σ G W S mb) :
    E (tOp r ta tb) σ G W T (ma >>= fun x => mb >>= fun y => f x y) := fun z hz H e e' Q q => by
  obtain ⟨x, hx, hz⟩ := bindS hz
  obtain ⟨y, hy, hz⟩ := bindS hz
  refine ha x hx H e e' _ fun v H1 G1 u1 r1 => ?_
  refine (hb.mono u1.gg (e'.trans u1.hh)) y hy H1 u1.gh (Ex.refl _) _ fun w H2 G2 u2 r2 => ?_
  exact hr v w x y z H2 G2 (R.mono u2.gg r1) r2 hz u2.gh Q fun u H3 G3 u3 r3 => q u H3 G3 ((u1.trans u2).trans u3) r3
theorem rr_I0 {g : Int → Int → V} {f : Int → Int → γ} (h : ∀ i j H, T.r H (g i j) (f i j)) : RR (rI0 g) rI rI T (fun i j => some (f i j)) := fun v w x y z H G hv hw hz e Q q => by
  cases hv; cases hw; cases hz
  exact ⟨x, y, rfl, rfl, q _ H G (Up.refl e) (h x y G)⟩
theorem rr_I {C : Int → Int → Prop} {g : Int → Int → V} {f : Int → Int → Option γ} (h : ∀ i j z, f i j = some z → C i j ∧ ∀ H, T.r H (g i j) z) : RR (L2.rI C g) rI rI T f := fun v w x y z H G hv hw hz e Q q => by
  cases hv; cases hw
  obtain ⟨h1, h2⟩ := h x y z hz
  exact ⟨x, y, rfl, rfl, h1, q _ H G (Up.refl e) (h2 G)⟩
end
end Sim

namespace Sim
open PySem L2 Evl

/-! ### cells: objects that change -/
structure CP where
  p : Hp → HO → Prop
  mono : ∀ {G G' : Hp} {o : HO}, Ex G G' → p G o → p G' o
def cL {α : Type} (R : Rep α) (xs : List α) : CP := ⟨fun G o => ∃ vs, o = .lst vs ∧ Paired (R.r G) vs xs, fun e ⟨vs, h1, h2⟩ => ⟨vs, h1, Paired.mapP h2 fun _ _ => R.mono e⟩⟩
abbrev Cs := List (Addr × CP)
structure Wd (G H : Hp) (cs : Cs) : Prop where
  ex : Ex G H
  at_ : ∀ c ∈ cs, G c.1 = none ∧ ∃ o, H c.1 = some o ∧ c.2.p G o
  nd : (cs.map (·.1)).Nodup
theorem Wd.nil {G H : Hp} (e : Ex G H) : Wd G H [] := ⟨e, fun _ h => absurd h List.not_mem_nil, List.nodup_nil⟩
section
variable {G H G2 H2 : Hp} {cs : Cs} {l : Addr} {cp cp' : CP}
theorem Wd.head (w : Wd G H ((l, cp) :: cs)) : G l = none ∧ ∃ o, H l = some o ∧ cp.p G o := w.at_ _ (List.mem_cons_self ..)
theorem Wd.tail (w : Wd G H ((l, cp) :: cs)) : Wd G H cs := ⟨w.ex, fun c h => w.at_ c (List.mem_cons_of_mem _ h), (List.nodup_cons.mp w.nd).2⟩
theorem Wd.up (w : Wd G H cs) (u : Up G H G2 H2) : Wd G2 H2 cs := ⟨u.gh, fun c h => by
  obtain ⟨h1, o, h2, h3⟩ := w.at_ c h
  exact ⟨u.nw _ (by rw [h2]; simp) h1, o, u.hh _ _ h2, c.2.mono u.gg h3⟩, w.nd⟩
theorem Wd.sc (w : Wd G H cs) (u : Ex H H2) : Wd G H2 cs := w.up (Up.same w.ex u)
theorem Wd.swap {l' : Addr} (w : Wd G H ((l, cp) :: (l', cp') :: cs)) : Wd G H ((l', cp') :: (l, cp) :: cs) := ⟨w.ex, fun c h => w.at_ c (by
  rcases List.mem_cons.mp h with h | h
  · subst h; exact List.mem_cons_of_mem _ (List.mem_cons_self ..)
  · rcases List.mem_cons.mp h with h | h
    · subst h; exact List.mem_cons_self ..
    · exact List.mem_cons_of_mem _ (List.mem_cons_of_mem _ h)), by
  have := w.nd
  simp only [List.map_cons, List.nodup_cons, List.mem_cons, not_or] at this ⊢
  exact ⟨⟨fun z => this.1.1 z.symm, this.2.1⟩, this.1.2, this.2.2⟩⟩
/-- the first cell moved behind the second and third -/
theorem Wd.rot3 {l' l'' : Addr} {cp'' : CP} (w : Wd G H ((l, cp) :: (l', cp') :: (l'', cp'') :: cs)) : Wd G H ((l'', cp'') :: (l, cp) :: (l', cp') :: cs) := ⟨w.ex, fun c h => w.at_ c (by
  simp only [List.mem_cons] at h ⊢
  rcases h with h | h | h | h <;> simp [h]), by
  have := w.nd
  simp only [List.map_cons, List.nodup_cons, List.mem_cons, not_or] at this ⊢
  obtain ⟨⟨a, b, c⟩, ⟨d, e⟩, f, g⟩ := this
  exact ⟨⟨fun z => b z.symm, fun z => d z.symm, f⟩, ⟨a, c⟩, e, g⟩⟩
/-- the first cell is written -/
theorem Wd.write (w : Wd G H ((l, cp) :: cs)) {o : HO} (h : cp'.p G o) : Wd G (upd H l o) ((l, cp') :: cs) := by
  refine ⟨fun a u e => ?_, fun c hc => ?_, w.nd⟩
  · rw [upd_ne (fun z => by subst z; rw [w.head.1] at e; cases e)]; exact w.ex a u e
  · rcases List.mem_cons.mp hc with hc | hc
    · subst hc; exact ⟨w.head.1, o, upd_same, h⟩
    · obtain ⟨h1, o', h2, h3⟩ := w.tail.at_ c hc
      have hne : c.1 ≠ l := fun z => (List.nodup_cons.mp w.nd).1 (by rw [← z]; exact List.mem_map_of_mem (f := (·.1)) hc)
      exact ⟨h1, o', by rw [upd_ne hne]; exact h2, h3⟩
/-- a new cell is laid -/
theorem Wd.new (w : Wd G H cs) {o : HO} (n : H l = none) (h : cp.p G o) : Wd G (upd H l o) ((l, cp) :: cs) := by
  refine ⟨w.ex.mut (fresh_back w.ex n), fun c hc => ?_, ?_⟩
  · rcases List.mem_cons.mp hc with hc | hc
    · subst hc; exact ⟨fresh_back w.ex n, o, upd_same, h⟩
    · obtain ⟨h1, o', h2, h3⟩ := w.at_ c hc
      exact ⟨h1, o', by rw [upd_ne (ne_of_none h2 n)]; exact h2, h3⟩
  · show (l :: cs.map (·.1)).Nodup
    refine List.nodup_cons.mpr ⟨fun hm => ?_, w.nd⟩
    obtain ⟨c, hc, e⟩ := List.mem_map.mp hm
    obtain ⟨_, o', h2, _⟩ := w.at_ c hc
    exact ne_of_none h2 n e
/-- a list cell becomes data -/
theorem Wd.freeze {α : Type} {R : Rep α} {xs : List α} (w : Wd G H ((l, cL R xs) :: cs)) : ∃ G2, Wd G2 H cs ∧ Ex G G2 ∧ (rL R).r G2 (.ref l) xs := by
  obtain ⟨h1, o, h2, vs, rfl, h3⟩ := w.head
  refine ⟨upd G l (.lst vs), ⟨fun a u e => ?_, fun c hc => ?_, w.tail.nd⟩, Ex.new h1, l, vs, rfl, upd_same, Paired.mapP h3 fun _ _ => R.mono (Ex.new h1)⟩
  · by_cases q : a = l
    · subst q; rw [upd_same] at e; cases e; exact h2
    · rw [upd_ne q] at e; exact w.ex a u e
  · obtain ⟨k1, o', k2, k3⟩ := w.tail.at_ c hc
    have hne : c.1 ≠ l := fun z => (List.nodup_cons.mp w.nd).1 (by rw [← z]; exact List.mem_map_of_mem (f := (·.1)) hc)
    exact ⟨by rw [upd_ne hne]; exact k1, o', k2, c.2.mono (Ex.new h1) k3⟩
/-- a cell read as it stands -/
theorem Wd.rl {α : Type} {R : Rep α} {xs : List α} (w : Wd G H ((l, cL R xs) :: cs)) : (rL R).r H (.ref l) xs := by
  obtain ⟨h1, o, h2, vs, rfl, h3⟩ := w.head
  exact ⟨l, vs, rfl, h2, Paired.mapP h3 fun _ _ => R.mono w.ex⟩
end
theorem Wd.rl1 {G H : Hp} {cs : Cs} {α : Type} {R : Rep α} {xs : List α} {l : Addr} {c : Addr × CP} (w : Wd G H (c :: (l, cL R xs) :: cs)) : (rL R).r H (.ref l) xs := w.tail.rl
theorem Wd.rl2 {G H : Hp} {cs : Cs} {α : Type} {R : Rep α} {xs : List α} {l : Addr} {c c' : Addr × CP} (w : Wd G H (c :: c' :: (l, cL R xs) :: cs)) : (rL R).r H (.ref l) xs := w.tail.tail.rl

/-! ### promises -/
/-- what is handed back is data -/
def PF {ι α : Type} (A : AR ι) (R : Rep α) (f : ι → Option α) : Sp := fun vs H Q _ => ∃ G i x, Ex G H ∧ A.r G vs i ∧ f i = some x ∧ ∀ v H2 G2, Up G H G2 H2 → R.r G2 v x → Q v H2
/-- a new list is handed back -/
def PL {ι α : Type} (A : AR ι) (R : Rep α) (f : ι → Option (List α)) : Sp := fun vs H Q _ => ∃ G i x, Ex G H ∧ A.r G vs i ∧ f i = some x ∧
  ∀ p H2 G2, H p = none → Up G H G2 H2 → Wd G2 H2 [(p, cL R x)] → Q (.ref p) H2
/-- cells change -/
structure Fr (G H G2 H2 : Hp) (ls : List Addr) : Prop where
  gg : Ex G G2
  fr : ∀ a o, H a = some o → a ∉ ls → H2 a = some o
  nw : ∀ a, H a ≠ none → G a = none → G2 a = none
  st : ∀ a, H a ≠ none → H2 a ≠ none
def PM {ι κ α : Type} (A : AR ι) (ci : ι → κ → Cs) (R : Rep α) (f : ι → κ → Option (α × κ)) : Sp := fun vs H Q _ => ∃ G i k x k', A.r G vs i ∧ Wd G H (ci i k) ∧ f i k = some (x, k') ∧
  ∀ v H2 G2, Fr G H G2 H2 ((ci i k).map (·.1)) → Wd G2 H2 (ci i k') → R.r G2 v x → Q v H2
def PML {ι κ α : Type} (A : AR ι) (ci : ι → κ → Cs) (R : Rep α) (f : ι → κ → Option (List α × κ)) : Sp := fun vs H Q _ => ∃ G i k x k', A.r G vs i ∧ Wd G H (ci i k) ∧ f i k = some (x, k') ∧
  ∀ p H2 G2, H p = none → Fr G H G2 H2 ((ci i k).map (·.1)) → Wd G2 H2 ((p, cL R x) :: ci i k') → Q (.ref p) H2
theorem Wd.app {G H : Hp} {a b : Cs} (w : Wd G H (a ++ b)) : Wd G H a ∧ Wd G H b := ⟨⟨w.ex, fun c h => w.at_ c (List.mem_append_left _ h), by
  have := w.nd; rw [List.map_append] at this; exact (List.nodup_append.mp this).1⟩, ⟨w.ex, fun c h => w.at_ c (List.mem_append_right _ h), by
  have := w.nd; rw [List.map_append] at this; exact (List.nodup_append.mp this).2.1⟩⟩
theorem Wd.join {G H G2 H2 : Hp} {a a' b : Cs} (w : Wd G H (a ++ b)) (f : Fr G H G2 H2 (a.map (·.1))) (w2 : Wd G2 H2 a') (e : a'.map (·.1) = a.map (·.1)) : Wd G2 H2 (a' ++ b) := by
  have nd : (a.map (·.1) ++ b.map (·.1)).Nodup := by have := w.nd; rw [List.map_append] at this; exact this
  refine ⟨w2.ex, fun c h => ?_, by rw [List.map_append, e]; exact nd⟩
  rcases List.mem_append.mp h with h | h
  · exact w2.at_ c h
  · obtain ⟨h1, o, h2, h3⟩ := w.app.2.at_ c h
    have hn : c.1 ∉ a.map (·.1) := fun z => (List.nodup_append.mp nd).2.2 _ z _ (List.mem_map_of_mem h) rfl
    exact ⟨f.nw _ (by rw [h2]; simp) h1, o, f.fr _ _ h2 hn, c.2.mono f.gg h3⟩
/-- the same, a new cell ahead -/
theorem Wd.joinN {G H G2 H2 : Hp} {a a' b : Cs} {p : Addr} {cp : CP} (w : Wd G H (a ++ b)) (f : Fr G H G2 H2 (a.map (·.1))) (hp : H p = none) (w2 : Wd G2 H2 ((p, cp) :: a')) (e : a'.map (·.1) = a.map (·.1)) : Wd G2 H2 ((p, cp) :: (a' ++ b)) := by
  have w3 := w.join f w2.tail e
  refine ⟨w3.ex, fun c h => ?_, ?_⟩
  · rcases List.mem_cons.mp h with h | h
    · subst h; exact w2.head
    · exact w3.at_ c h
  · show (p :: (a' ++ b).map (·.1)).Nodup
    refine List.nodup_cons.mpr ⟨fun hm => ?_, w3.nd⟩
    rw [List.map_append, e, ← List.map_append] at hm
    obtain ⟨c, hc, ec⟩ := List.mem_map.mp hm
    obtain ⟨_, o', h2, _⟩ := w.at_ c hc
    exact ne_of_none h2 hp ec
theorem Fr.refl {G H : Hp} {ls : List Addr} : Fr G H G H ls := ⟨Ex.refl _, fun _ _ h _ => h, fun _ _ h => h, fun _ h => h⟩
theorem some_ne {H H2 : Hp} (e : Ex H H2) {a : Addr} (h : H a ≠ none) : H2 a ≠ none := by
  cases q : H a with
  | none => exact absurd q h
  | some o => rw [e a o q]; simp
theorem Up.fr {G H G2 H2 : Hp} {ls : List Addr} (u : Up G H G2 H2) : Fr G H G2 H2 ls := ⟨u.gg, fun a o h _ => u.hh a o h, u.nw, fun a h => some_ne u.hh h⟩
theorem Fr.trans {G H G1 H1 G2 H2 : Hp} {ls : List Addr} (a : Fr G H G1 H1 ls) (b : Fr G1 H1 G2 H2 ls) : Fr G H G2 H2 ls :=
  ⟨a.gg.trans b.gg, fun x o h1 h2 => b.fr x o (a.fr x o h1 h2) h2, fun x h1 h2 => b.nw x (a.st x h1) (a.nw x h1 h2), fun x h => b.st x (a.st x h)⟩
/-- a frame of more cells, those that were not there ahead -/
theorem Fr.less {G H G2 H2 : Hp} {ls ms : List Addr} (a : Fr G H G2 H2 ms) (h : ∀ x ∈ ms, x ∈ ls ∨ H x = none) : Fr G H G2 H2 ls :=
  ⟨a.gg, fun x o h1 h2 => a.fr x o h1 fun z => (h x z).elim h2 fun q => absurd h1 (by rw [q]; simp), a.nw, a.st⟩
theorem Fr.write {G H : Hp} {l : Addr} {o : HO} : Fr G H G (upd H l o) [l] := ⟨Ex.refl _, fun a u h1 h2 => by rw [upd_ne (fun z => h2 (by rw [z]; exact List.mem_cons_self ..))]; exact h1, fun _ _ h => h, fun a h => by
  by_cases q : a = l
  · subst q; rw [upd_same]; simp
  · rw [upd_ne q]; exact h⟩
end Sim

namespace Sim
open PySem L2 Evl
section
variable {K : PySem.W.Frag} {σ : L2.St} {G H G' W W' : Hp} {ta tb te tc : TE} {t u : TT} {α β γ ι κ : Type} {R : Rep α} {S : Rep β} {T : Rep γ} {A : AR ι}

/-! ### mirrors of operations that may lack an answer -/
def mulM (a b : Int) : Option Int := if (-(2 ^ 64) < a ∧ a < 2 ^ 64) ∨ (-(2 ^ 64) < b ∧ b < 2 ^ 64) then some (a * b) else none
def modM (a b : Int) : Option Int := if 0 < b then some (a % b) else none
def fdivM (a b : Int) : Option Int := if 0 < b ∧ b < 1073741824 then some (a / b) else none
def andO (a : Option Bool) (b : Option Bool) : Option Bool := a >>= fun x => bif x then b else some false
def orO (a : Option Bool) (b : Option Bool) : Option Bool := a >>= fun x => bif x then some true else b
def iteO (c : Option Bool) (a b : Option α) : Option α := c >>= fun x => bif x then a else b

theorem rr_add : RR (rI0 fun i j => .int (i + j)) rI rI rI (fun i j => some (i + j)) := rr_I0 fun _ _ _ => rfl
theorem rr_sub : RR (rI0 fun i j => .int (i - j)) rI rI rI (fun i j => some (i - j)) := rr_I0 fun _ _ _ => rfl
theorem rr_mul : RR (L2.rI CMul fun i j => .int (i * j)) rI rI rI mulM := rr_I fun i j z h => by
  unfold mulM at h
  split at h
  · rename_i hc; cases h; exact ⟨hc, fun _ => rfl⟩
  · cases h
theorem rr_mod : RR (L2.rI (fun _ j => 0 < j) fun i j => .int (i % j)) rI rI rI modM := rr_I fun i j z h => by
  unfold modM at h
  split at h
  · rename_i hc; cases h; exact ⟨hc, fun _ => rfl⟩
  · cases h
theorem rr_fdiv : RR (L2.rI CDiv fun i j => .int (i / j)) rI rI rI fdivM := rr_I fun i j z h => by
  unfold fdivM at h
  split at h
  · rename_i hc; cases h; exact ⟨hc, fun _ => rfl⟩
  · cases h
theorem rr_and : RR (rI0 fun i j => .int (Builtin.bitAnd i j)) rI rI rI (fun i j => some (Builtin.bitAnd i j)) := rr_I0 fun _ _ _ => rfl
theorem rr_or : RR (rI0 fun i j => .int (Builtin.bitOr i j)) rI rI rI (fun i j => some (Builtin.bitOr i j)) := rr_I0 fun _ _ _ => rfl
theorem rr_lt : RR (rI0 fun i j => .bl (decide (i < j))) rI rI rB (fun i j => some (decide (i < j))) := rr_I0 fun _ _ _ => rfl
theorem rr_le : RR (rI0 fun i j => .bl (decide (i ≤ j))) rI rI rB (fun i j => some (decide (i ≤ j))) := rr_I0 fun _ _ _ => rfl
theorem rr_gt : RR (rI0 fun i j => .bl (decide (j < i))) rI rI rB (fun i j => some (decide (j < i))) := rr_I0 fun _ _ _ => rfl
theorem rr_ge : RR (rI0 fun i j => .bl (decide (j ≤ i))) rI rI rB (fun i j => some (decide (j ≤ i))) := rr_I0 fun _ _ _ => rfl
theorem rr_eqI : RR rEq rI rI rB (fun i j => some (i == j)) := fun v w x y z H G hv hw hz e Q q => by
  cases hv; cases hw; cases hz
  exact ⟨rfl, q _ H G (Up.refl e) (congrArg V.bl dec_int)⟩
theorem rr_neI : RR rNe rI rI rB (fun i j => some (!(i == j))) := fun v w x y z H G hv hw hz e Q q => by
  cases hv; cases hw; cases hz
  exact ⟨rfl, q _ H G (Up.refl e) (congrArg (fun b => V.bl (!b)) dec_int)⟩
theorem rr_eqB : RR rEq rB rB rB (fun i j => some (i == j)) := fun v w x y z H G hv hw hz e Q q => by
  cases hv; cases hw; cases hz
  exact ⟨rfl, q _ H G (Up.refl e) (congrArg V.bl dec_bl)⟩
theorem rr_neB : RR rNe rB rB rB (fun i j => some (!(i == j))) := fun v w x y z H G hv hw hz e Q q => by
  cases hv; cases hw; cases hz
  exact ⟨rfl, q _ H G (Up.refl e) (congrArg (fun b => V.bl (!b)) dec_bl)⟩
theorem rr_eqS : RR rEq rS rS rB (fun i j => some (decide (i = j))) := fun v w x y z H G hv hw hz e Q q => by
  cases hv; cases hw; cases hz
  refine ⟨rfl, q _ H G (Up.refl e) (congrArg V.bl ?_)⟩
  by_cases h : x = y
  · subst h; simp
  · have : ¬ V.str x = V.str y := fun z => h (V.str.inj z)
    simp [h, this]
theorem rr_neS : RR rNe rS rS rB (fun i j => some (!decide (i = j))) := fun v w x y z H G hv hw hz e Q q => by
  cases hv; cases hw; cases hz
  refine ⟨rfl, q _ H G (Up.refl e) (congrArg (fun b => V.bl (!b)) ?_)⟩
  by_cases h : x = y
  · subst h; simp
  · have : ¬ V.str x = V.str y := fun z => h (V.str.inj z)
    simp [h, this]
theorem rr_ixL : RR (rIxL K) (rL R) rI R (fun xs i => atI xs i) := fun v w xs i z H G hv hw hz e Q q => by
  obtain ⟨a, vs, rfl, h2, h3⟩ := hv
  cases hw
  have hz' : (ixN xs.length i).bind (fun j => xs[j]?) = some z := hz
  cases hj : ixN xs.length i with
  | none => rw [hj] at hz'; cases hz'
  | some j =>
    rw [hj] at hz'
    obtain ⟨y, h4, h5⟩ := pr_get h3 (show xs[j]? = some z from hz')
    refine ⟨a, vs, i, y, rfl, rfl, Or.inl (Or.inl (e a _ h2)), ?_, q y H G (Up.refl e) h5⟩
    show (ixN vs.length i).bind (fun j => vs[j]?) = some y
    rw [h3.length, hj]; exact h4
theorem rr_ixT : RR (rIxT K) (rT R) rI R (fun xs i => atI xs i) := fun v w xs i z H G hv hw hz e Q q => by
  obtain ⟨a, vs, rfl, h2, h3⟩ := hv
  cases hw
  have hz' : (ixN xs.length i).bind (fun j => xs[j]?) = some z := hz
  cases hj : ixN xs.length i with
  | none => rw [hj] at hz'; cases hz'
  | some j =>
    rw [hj] at hz'
    obtain ⟨y, h4, h5⟩ := pr_get h3 (show xs[j]? = some z from hz')
    refine ⟨a, vs, i, y, rfl, rfl, Or.inl (Or.inl (e a _ h2)), ?_, q y H G (Up.refl e) h5⟩
    show (ixN vs.length i).bind (fun j => vs[j]?) = some y
    rw [h3.length, hj]; exact h4
/-- p[0], p[1] of a pair -/
theorem e_fst {m : Option (α × β)} (h : E ta σ G W (rP R S) m) : E (tOp (rIxT K) ta (tC (.int 0))) σ G W R (m >>= fun p => some p.1) := fun z hz H e e' Q q => by
  obtain ⟨x, hx, hz⟩ := bindS hz
  cases hz
  refine h x hx H e e' _ fun v H1 G1 u1 r1 => ?_
  obtain ⟨a, y, w, rfl, h2, h3, h4⟩ := r1
  exact ⟨a, [y, w], 0, y, rfl, rfl, Or.inl (Or.inl (u1.gh a _ h2)), rfl, q y H1 G1 u1 h3⟩
theorem e_snd {m : Option (α × β)} (h : E ta σ G W (rP R S) m) : E (tOp (rIxT K) ta (tC (.int 1))) σ G W S (m >>= fun p => some p.2) := fun z hz H e e' Q q => by
  obtain ⟨x, hx, hz⟩ := bindS hz
  cases hz
  refine h x hx H e e' _ fun v H1 G1 u1 r1 => ?_
  obtain ⟨a, y, w, rfl, h2, h3, h4⟩ := r1
  exact ⟨a, [y, w], 1, w, rfl, rfl, Or.inl (Or.inl (u1.gh a _ h2)), rfl, q w H1 G1 u1 h4⟩
/-- never None -/
def Rep.NN (R : Rep α) : Prop := ∀ {H : Hp} {v : V} {x : α}, R.r H v x → v ≠ .non
theorem nnI : rI.NN := fun h => by rw [show _ = V.int _ from h]; simp
theorem nnB : rB.NN := fun h => by rw [show _ = V.bl _ from h]; simp
theorem nnS : rS.NN := fun h => by rw [show _ = V.str _ from h]; simp
theorem nnL : (rL R).NN := fun ⟨a, _, h, _⟩ => by rw [h]; simp
theorem nnT : (rT R).NN := fun ⟨a, _, h, _⟩ => by rw [h]; simp
theorem nnP : (rP R S).NN := fun ⟨a, _, _, h, _⟩ => by rw [h]; simp
theorem rr_isN (nn : R.NN) : RR (fun x y H Q => y = .non ∧ Q (.bl (decide (x = .non))) H) (rO R) rU rB (fun o _ => some o.isNone) := fun v w o y z H G hv hw hz e Q q => by
  cases hz
  refine ⟨hw, q _ H G (Up.refl e) ?_⟩
  cases o with
  | none => have : v = .non := hv; subst this; rfl
  | some x => exact congrArg V.bl (decide_eq_false (nn hv))
theorem rr_notN (nn : R.NN) : RR (fun x y H Q => y = .non ∧ Q (.bl (!decide (x = .non))) H) (rO R) rU rB (fun o _ => some o.isSome) := fun v w o y z H G hv hw hz e Q q => by
  cases hz
  refine ⟨hw, q _ H G (Up.refl e) ?_⟩
  cases o with
  | none => have : v = .non := hv; subst this; rfl
  | some x => exact congrArg (fun b => V.bl (!b)) (decide_eq_false (nn hv))
/-- flat values: in -/
structure FlR (R : Rep α) (eq : α → α → Bool) : Prop where
  fl : ∀ {H : Hp} {v : V} {x : α}, R.r H v x → flatV v = true
  eq : ∀ {H H' : Hp} {v w : V} {x y : α}, R.r H v x → R.r H' w y → eqV v w = eq x y
theorem flI : FlR rI (fun a b => a == b) := ⟨fun h => by rw [show _ = V.int _ from h]; rfl, fun h h' => by rw [show _ = V.int _ from h, show _ = V.int _ from h']; rfl⟩
theorem flS : FlR rS (fun a b => a == b) := ⟨fun h => by rw [show _ = V.str _ from h]; rfl, fun h h' => by rw [show _ = V.str _ from h, show _ = V.str _ from h']; rfl⟩
theorem pr_inV {eq : α → α → Bool} (f : FlR R eq) {H H' : Hp} {v : V} {x : α} (hv : R.r H' v x) : ∀ {vs : List V} {xs : List α}, Paired (R.r H) vs xs → inV v vs = xs.any (fun y => eq y x) ∧ vs.all flatV = true
  | _, _, .nil => ⟨rfl, rfl⟩
  | _, _, .cons r t => by
    obtain ⟨h1, h2⟩ := pr_inV f hv t
    refine ⟨?_, ?_⟩
    · show (eqV _ v || _) = (eq _ x || _)
      rw [f.eq r hv]; exact congrArg _ h1
    · show (flatV _ && _) = true
      rw [f.fl r]; exact h2
theorem rr_inL {eq : α → α → Bool} (f : FlR R eq) : RR (rIn K false) R (rL R) rB (fun x xs => some (xs.any fun y => eq y x)) := fun v w x xs z H G hv hw hz e Q q => by
  cases hz
  obtain ⟨a, vs, rfl, h2, h3⟩ := hw
  obtain ⟨h4, h5⟩ := pr_inV f hv h3
  refine ⟨a, vs, rfl, Or.inl (Or.inl (Or.inl (e a _ h2))), f.fl hv, h5, q _ H G (Up.refl e) (congrArg V.bl ?_)⟩
  exact h4
theorem rr_ninL {eq : α → α → Bool} (f : FlR R eq) : RR (rIn K true) R (rL R) rB (fun x xs => some (!xs.any fun y => eq y x)) := fun v w x xs z H G hv hw hz e Q q => by
  cases hz
  obtain ⟨a, vs, rfl, h2, h3⟩ := hw
  obtain ⟨h4, h5⟩ := pr_inV f hv h3
  refine ⟨a, vs, rfl, Or.inl (Or.inl (Or.inl (e a _ h2))), f.fl hv, h5, q _ H G (Up.refl e) (congrArg V.bl ?_)⟩
  exact congrArg (fun b => !b) h4

/-! ### and, or, not, if -/
theorem e_andV {a b : Option Bool} (h1 : E ta σ G W rB a) (h2 : E tb σ G W rB b) : E (tAndV ta tb) σ G W rB (andO a b) := fun z hz H e e' Q q => by
  obtain ⟨x, hx, hz⟩ := bindS hz
  refine h1 x hx H e e' _ fun v H1 G1 u1 r1 => ⟨x, r1, ?_⟩
  cases x with
  | true => exact (h2.mono u1.gg (e'.trans u1.hh)) z hz H1 u1.gh (Ex.refl _) Q fun v H2 G2 u2 r2 => q v H2 G2 (u1.trans u2) r2
  | false => cases hz; exact q _ H1 G1 u1 rfl
theorem e_orV {a b : Option Bool} (h1 : E ta σ G W rB a) (h2 : E tb σ G W rB b) : E (tOrV ta tb) σ G W rB (orO a b) := fun z hz H e e' Q q => by
  obtain ⟨x, hx, hz⟩ := bindS hz
  refine h1 x hx H e e' _ fun v H1 G1 u1 r1 => ⟨x, r1, ?_⟩
  cases x with
  | false => exact (h2.mono u1.gg (e'.trans u1.hh)) z hz H1 u1.gh (Ex.refl _) Q fun v H2 G2 u2 r2 => q v H2 G2 (u1.trans u2) r2
  | true => cases hz; exact q _ H1 G1 u1 rfl
theorem e_notV {a : Option Bool} (h1 : E ta σ G W rB a) : E (tNotV ta) σ G W rB (a >>= fun x => some (!x)) := fun z hz H e e' Q q => by
  obtain ⟨x, hx, hz⟩ := bindS hz
  cases hz
  exact h1 x hx H e e' _ fun v H1 G1 u1 r1 => ⟨x, r1, q _ H1 G1 u1 rfl⟩
theorem e_if {c : Option Bool} {ma mb : Option α} (hc : ET t σ W c) (h1 : E ta σ G W R ma) (h2 : E tb σ G W R mb) : E (tIf t ta tb) σ G W R (iteO c ma mb) := fun z hz H e e' Q q => by
  obtain ⟨x, hx, hz⟩ := bindS hz
  refine hc x hx H e' _ fun H1 e1 => ?_
  cases x with
  | true => exact h1 z hz H1 (e.trans e1) (e'.trans e1) Q fun v H2 G2 u2 r2 => q v H2 G2 ((Up.same e e1).trans u2) r2
  | false => exact h2 z hz H1 (e.trans e1) (e'.trans e1) Q fun v H2 G2 u2 r2 => q v H2 G2 ((Up.same e e1).trans u2) r2
theorem et_T {m : Option Bool} (h : E te σ W W rB m) : ET (tTest te) σ W m := fun b hb H e Q q => h b hb H e e _ fun v H2 G2 u r => ⟨b, r, q H2 u.hh⟩
theorem et_B {m : Option Bool} (h : E te σ W W rB m) : ET (tB te) σ W m := fun b hb H e Q q => h b hb H e e _ fun v H2 G2 u r => ⟨b, r, q H2 u.hh⟩
theorem et_and {a b : Option Bool} (h1 : ET t σ G a) (h2 : ET u σ G b) : ET (tAnd t u) σ G (andO a b) := fun z hz H e Q q => by
  obtain ⟨x, hx, hz⟩ := bindS hz
  refine h1 x hx H e _ fun H1 e1 => ?_
  cases x with
  | true => exact h2 z hz H1 (e.trans e1) Q fun H2 e2 => q H2 (e1.trans e2)
  | false => cases hz; exact q H1 e1
theorem et_or {a b : Option Bool} (h1 : ET t σ G a) (h2 : ET u σ G b) : ET (tOr t u) σ G (orO a b) := fun z hz H e Q q => by
  obtain ⟨x, hx, hz⟩ := bindS hz
  refine h1 x hx H e _ fun H1 e1 => ?_
  cases x with
  | false => exact h2 z hz H1 (e.trans e1) Q fun H2 e2 => q H2 (e1.trans e2)
  | true => cases hz; exact q H1 e1
theorem et_not {a : Option Bool} (h1 : ET t σ G a) : ET (tNot t) σ G (a >>= fun x => some (!x)) := fun z hz H e Q q => by
  obtain ⟨x, hx, hz⟩ := bindS hz
  cases hz
  exact h1 x hx H e _ fun H1 e1 => q H1 e1

/-! ### arguments, calls -/
theorem ea_nil : EA tNil σ G W aN (some ()) := fun x hx H e e' Q q => q [] H G (Up.refl e) rfl
theorem ea_cons {tr : TA} {ma : Option α} {mr : Option ι} (h : E ta σ G W R ma) (hr : EA tr σ G W A mr) : EA (tCons ta tr) σ G W (aC R A) (ma >>= fun x => mr >>= fun y => some (x, y)) := fun z hz H e e' Q q => by
  obtain ⟨x, hx, hz⟩ := bindS hz
  obtain ⟨y, hy, hz⟩ := bindS hz
  cases hz
  refine h x hx H e e' _ fun v H1 G1 u1 r1 => ?_
  refine (hr.mono u1.gg (e'.trans u1.hh)) y hy H1 u1.gh (Ex.refl _) _ fun w H2 G2 u2 r2 => ?_
  exact q (v :: w) H2 G2 (u1.trans u2) ⟨v, w, rfl, R.mono u2.gg r1, r2⟩
def RC (r : List V → Hp → VK → Prop) (A : AR ι) (T : Rep γ) (f : ι → Option γ) : Prop :=
  ∀ vs i z H G, A.r G vs i → f i = some z → Ex G H → ∀ Q : VK, (∀ u H2 G2, Up G H G2 H2 → T.r G2 u z → Q u H2) → r vs H Q
def RCL (r : List V → Hp → VK → Prop) (A : AR ι) (T : Rep γ) (f : ι → Option (List γ)) : Prop :=
  ∀ vs i z H G, A.r G vs i → f i = some z → Ex G H → ∀ Q : VK, (∀ p H2 G2, H p = none → Up G H G2 H2 → Wd G2 H2 [(p, cL T z)] → Q (.ref p) H2) → r vs H Q
/-- an expression that makes a new list -/
def EL (te : TE) (σ : L2.St) (G W : Hp) (R : Rep α) (m : Option (List α)) : Prop :=
  ∀ xs, m = some xs → ∀ H, Ex G H → Ex W H → ∀ Q : VK, (∀ p H2 G2, H p = none → Up G H G2 H2 → Wd G2 H2 [(p, cL R xs)] → Q (.ref p) H2) → te σ H Q
theorem Up.frz {G H G1 H1 G2 : Hp} {p : Addr} (hp : H p = none) (u : Up G H G1 H1) (e : Ex G1 G2) (e2 : Ex G2 H1) (n : ∀ a, a ≠ p → G1 a = none → G2 a = none) : Up G H G2 H1 :=
  ⟨u.gg.trans e, e2, u.hh, fun a h1 h2 => n a (fun z => by subst z; exact h1 hp) (u.nw a h1 h2)⟩
theorem frz1 {G H G1 H1 : Hp} {p : Addr} {xs : List α} (hp : H p = none) (u : Up G H G1 H1) (w : Wd G1 H1 [(p, cL R xs)]) : ∃ G2, Up G H G2 H1 ∧ (rL R).r G2 (.ref p) xs := by
  obtain ⟨h1, o, h2, vs, rfl, h3⟩ := w.head
  refine ⟨upd G1 p (.lst vs), u.frz hp (Ex.new h1) (fun a u' e => ?_) (fun a ne h => by rw [upd_ne ne]; exact h), p, vs, rfl, upd_same, Paired.mapP h3 fun _ _ => R.mono (Ex.new h1)⟩
  by_cases q : a = p
  · subst q; rw [upd_same] at e; cases e; exact h2
  · rw [upd_ne q] at e; exact w.ex a u' e
theorem EL.e {m : Option (List α)} (h : EL te σ G W R m) : E te σ G W (rL R) m := fun x hx H e e' Q q => h x hx H e e' Q fun p H2 G2 hp u w => by
  obtain ⟨G3, u3, r3⟩ := frz1 hp u w
  exact q _ H2 G3 u3 r3
theorem Wd.lift {Gw G2 : Hp} {H : Hp} {cs : Cs} (w : Wd G2 H cs) (e : Ex G2 Gw) (e2 : Ex Gw H) (n : ∀ c ∈ cs, Gw c.1 = none) : Wd Gw H cs := ⟨e2, fun c h => by
  obtain ⟨h1, o, h2, h3⟩ := w.at_ c h
  exact ⟨n c h, o, h2, c.2.mono e h3⟩, w.nd⟩
theorem Up.lift' {G Gw H G2 H2 : Hp} (u : Up G H G2 H2) (e1 : Ex G Gw) (e2 : Ex Gw H) : ∃ G3, Up Gw H G3 H2 ∧ Ex G2 G3 ∧ ∀ a, H a = none → G2 a = none → G3 a = none := by
  refine ⟨fun a => match H a with | none => G2 a | some _ => Gw a, ⟨fun a o h => ?_, fun a o h => ?_, u.hh, fun a h1 h2 => ?_⟩, fun a o h => ?_, fun a h1 h2 => ?_⟩
  · show (match H a with | none => G2 a | some _ => Gw a) = some o
    rw [e2 a o h]; exact h
  · have h' : (match H a with | none => G2 a | some _ => Gw a) = some o := h
    cases q : H a with
    | none => rw [q] at h'; exact u.gh a o h'
    | some o' =>
      rw [q] at h'
      exact u.hh a o (e2 a o h')
  · show (match H a with | none => G2 a | some _ => Gw a) = none
    cases q : H a with
    | none => exact absurd q h1
    | some o' => exact h2
  · show (match H a with | none => G2 a | some _ => Gw a) = some o
    cases q : H a with
    | none => exact h
    | some o' =>
      show Gw a = some o
      cases r : G a with
      | none => rw [u.nw a (by rw [q]; simp) r] at h; cases h
      | some o2 =>
        have := u.gg a o2 r
        rw [h] at this
        cases this
        exact e1 a _ r
  · show (match H a with | none => G2 a | some _ => Gw a) = none
    rw [h1]; exact h2
theorem EL.mono {m : Option (List α)} (e : Ex G G') (e' : Ex W W') (h : EL te σ G W R m) : EL te σ G' W' R m := fun x hx H e1 e2 Q q => h x hx H (e.trans e1) (e'.trans e2) Q fun p H2 G2 hp u w => by
  obtain ⟨G3, u3, e3, n3⟩ := u.lift' e e1
  exact q p H2 G3 hp u3 (w.lift e3 u3.gh fun c hc => by
    cases List.mem_singleton.mp hc
    exact n3 p hp w.head.1)
theorem e_cb {r : List V → Hp → VK → Prop} {f : ι → Option γ} {ta : TA} {m : Option ι} (hr : RC r A T f) (ha : EA ta σ G W A m) : E (tCB r ta) σ G W T (m >>= f) := fun z hz H e e' Q q => by
  obtain ⟨i, hi, hz⟩ := bindS hz
  refine ha i hi H e e' _ fun vs H1 G1 u1 r1 => ?_
  exact hr vs i z H1 G1 r1 hz u1.gh Q fun u H2 G2 u2 r2 => q u H2 G2 (u1.trans u2) r2
theorem el_cb {r : List V → Hp → VK → Prop} {f : ι → Option (List γ)} {ta : TA} {m : Option ι} (hr : RCL r A T f) (ha : EA ta σ G W A m) : EL (tCB r ta) σ G W T (m >>= f) := fun z hz H e e' Q q => by
  obtain ⟨i, hi, hz⟩ := bindS hz
  refine ha i hi H e e' _ fun vs H1 G1 u1 r1 => ?_
  exact hr vs i z H1 G1 r1 hz u1.gh Q fun p H2 G2 hp u2 w => q p H2 G2 (fresh_back u1.hh hp) (u1.trans u2) w
theorem e_call {f : ι → Option γ} {ta : TA} {m : Option ι} {X : XK} (ha : EA ta σ G W A m) : E (tCall (PF A T f) [] X ta) σ G W T (m >>= f) := fun z hz H e e' Q q => by
  obtain ⟨i, hi, hz⟩ := bindS hz
  refine ha i hi H e e' _ fun vs H1 G1 u1 r1 => ?_
  rw [List.append_nil]
  exact ⟨G1, i, z, u1.gh, r1, hz, fun v H2 G2 u2 r2 => q v H2 G2 (u1.trans u2) r2⟩
theorem el_call {f : ι → Option (List γ)} {ta : TA} {m : Option ι} {X : XK} (ha : EA ta σ G W A m) : EL (tCall (PL A T f) [] X ta) σ G W T (m >>= f) := fun z hz H e e' Q q => by
  obtain ⟨i, hi, hz⟩ := bindS hz
  refine ha i hi H e e' _ fun vs H1 G1 u1 r1 => ?_
  rw [List.append_nil]
  exact ⟨G1, i, z, u1.gh, r1, hz, fun p H2 G2 hp u2 w => q p H2 G2 (fresh_back u1.hh hp) (u1.trans u2) w⟩

/-! ### built-ins -/
def sz (n : Nat) : Bool := decide (n < 100000)
theorem sz_le {n : Nat} (h : sz n = true) : n ≤ sizeLine := sz_of (Nat.le_of_lt (of_decide_eq_true h))
theorem sz_l {n : Nat} (h : sz n = true) : n < sizeLine := sz_lt (of_decide_eq_true h)
abbrev rLn (K : PySem.W.Frag) : List V → Hp → VK → Prop := fun xs H Q => ∃ p ys, xs = [.ref p] ∧ (SqL K H p ys ∨ SqT K H p ys) ∧ Q (.int ys.length) H
theorem rc_lenL : RC (rLn K) (aC (rL R) aN) rI (fun i => some (i.1.length : Int)) := fun vs i z H G hv hz e Q q => by
  cases hz
  obtain ⟨v, ws, rfl, ⟨a, us, rfl, h2, h3⟩, rfl⟩ := hv
  refine ⟨a, us, rfl, Or.inl (Or.inl (Or.inl (e a _ h2))), q _ H G (Up.refl e) ?_⟩
  show V.int _ = V.int _
  rw [h3.length]
theorem rc_lenT : RC (rLn K) (aC (rT R) aN) rI (fun i => some (i.1.length : Int)) := fun vs i z H G hv hz e Q q => by
  cases hz
  obtain ⟨v, ws, rfl, ⟨a, us, rfl, h2, h3⟩, rfl⟩ := hv
  refine ⟨a, us, rfl, Or.inr (Or.inl (Or.inl (e a _ h2))), q _ H G (Up.refl e) ?_⟩
  show V.int _ = V.int _
  rw [h3.length]
abbrev rLs (K : PySem.W.Frag) : List V → Hp → VK → Prop := fun xs H Q => ∃ p ys, xs = [.ref p] ∧ (SqL K H p ys ∨ SqT K H p ys) ∧ ∀ l, H l = none → Q (.ref l) (upd H l (.lst ys))
theorem wd_new {vs : List V} {xs : List α} {p : Addr} (e : Ex G H) (n : H p = none) (h : Paired (R.r G) vs xs) : Wd G (upd H p (.lst vs)) [(p, cL R xs)] := (Wd.nil e).new n ⟨vs, rfl, h⟩
theorem up_new {p : Addr} {o : HO} (e : Ex G H) (n : H p = none) : Up G H G (upd H p o) := Up.same e (Ex.new n)
theorem rc_listL : RCL (rLs K) (aC (rL R) aN) R (fun i => some i.1) := fun vs i z H G hv hz e Q q => by
  cases hz
  obtain ⟨v, ws, rfl, ⟨a, us, rfl, h2, h3⟩, rfl⟩ := hv
  exact ⟨a, us, rfl, Or.inl (Or.inl (Or.inl (e a _ h2))), fun l hl => q l _ G hl (up_new e hl) (wd_new e hl h3)⟩
theorem rc_listT : RCL (rLs K) (aC (rT R) aN) R (fun i => some i.1) := fun vs i z H G hv hz e Q q => by
  cases hz
  obtain ⟨v, ws, rfl, ⟨a, us, rfl, h2, h3⟩, rfl⟩ := hv
  exact ⟨a, us, rfl, Or.inr (Or.inl (Or.inl (e a _ h2))), fun l hl => q l _ G hl (up_new e hl) (wd_new e hl h3)⟩
abbrev rTp (K : PySem.W.Frag) : List V → Hp → VK → Prop := fun xs H Q => ∃ p ys, xs = [.ref p] ∧ ((SqL K H p ys ∧ ∀ l, H l = none → Q (.ref l) (upd H l (.tup ys))) ∨ (SqT K H p ys ∧ Q (.ref p) H))
theorem rc_tupleL : RC (rTp K) (aC (rL R) aN) (rT R) (fun i => some i.1) := fun vs i z H G hv hz e Q q => by
  cases hz
  obtain ⟨v, ws, rfl, ⟨a, us, rfl, h2, h3⟩, rfl⟩ := hv
  refine ⟨a, us, rfl, Or.inl ⟨Or.inl (Or.inl (e a _ h2)), fun l hl => q _ _ _ (Up.lay e hl) ⟨l, us, rfl, upd_same, Paired.mapP h3 fun _ _ => R.mono (Ex.new (fresh_back e hl))⟩⟩⟩
abbrev rAbs : List V → Hp → VK → Prop := fun xs H Q => ∃ i, xs = [.int i] ∧ Q (.int (if i < 0 then -i else i)) H
theorem rc_abs : RC rAbs (aC rI aN) rI (fun i => some (if i.1 < 0 then -i.1 else i.1)) := fun vs i z H G hv hz e Q q => by
  cases hz
  obtain ⟨v, ws, rfl, rfl, rfl⟩ := hv
  exact ⟨_, rfl, q _ H G (Up.refl e) rfl⟩
abbrev rMx : List V → Hp → VK → Prop := fun xs H Q => ∃ i j, xs = [.int i, .int j] ∧ Q (.int (if j > i then j else i)) H
abbrev rMn : List V → Hp → VK → Prop := fun xs H Q => ∃ i j, xs = [.int i, .int j] ∧ Q (.int (if j < i then j else i)) H
theorem rc_max2 : RC rMx (aC rI (aC rI aN)) rI (fun i => some (if i.2.1 > i.1 then i.2.1 else i.1)) := fun vs i z H G hv hz e Q q => by
  cases hz
  obtain ⟨v, ws, rfl, rfl, v2, ws2, rfl, rfl, rfl⟩ := hv
  exact ⟨_, _, rfl, q _ H G (Up.refl e) rfl⟩
theorem rc_min2 : RC rMn (aC rI (aC rI aN)) rI (fun i => some (if i.2.1 < i.1 then i.2.1 else i.1)) := fun vs i z H G hv hz e Q q => by
  cases hz
  obtain ⟨v, ws, rfl, rfl, v2, ws2, rfl, rfl, rfl⟩ := hv
  exact ⟨_, _, rfl, q _ H G (Up.refl e) rfl⟩
abbrev rInt : List V → Hp → VK → Prop := fun xs H Q => (∃ i, xs = [.int i] ∧ Q (.int i) H) ∨ ∃ k, xs = [.bl k] ∧ Q (.int (if k then 1 else 0)) H
theorem rc_intI : RC rInt (aC rI aN) rI (fun i => some i.1) := fun vs i z H G hv hz e Q q => by
  cases hz
  obtain ⟨v, ws, rfl, rfl, rfl⟩ := hv
  exact Or.inl ⟨_, rfl, q _ H G (Up.refl e) rfl⟩
theorem rc_intB : RC rInt (aC rB aN) rI (fun i => some (if i.1 then 1 else 0)) := fun vs i z H G hv hz e Q q => by
  cases hz
  obtain ⟨v, ws, rfl, rfl, rfl⟩ := hv
  exact Or.inr ⟨_, rfl, q _ H G (Up.refl e) rfl⟩
theorem pr_ints {H : Hp} : ∀ {vs : List V} {xs : List Int}, Paired (rI.r H) vs xs → vs = xs.map V.int
  | _, _, .nil => rfl
  | _, _, .cons r t => by rw [show _ = V.int _ from r, pr_ints t]; rfl
theorem ints_pr {H : Hp} : ∀ (xs : List Int), Paired (rI.r H) (xs.map V.int) xs
  | [] => .nil
  | x :: xs => .cons rfl (ints_pr xs)
/-- the sorted list, the least, the greatest: plain mirrors -/
def insI (x : Int) : List Int → List Int
  | [] => [x]
  | y :: ys => if x ≤ y then x :: y :: ys else y :: insI x ys
def srtI : List Int → List Int
  | [] => []
  | x :: xs => insI x (srtI xs)
theorem insI_perm (x : Int) : ∀ ys, (insI x ys).Perm (x :: ys)
  | [] => .refl _
  | y :: ys => by
    unfold insI
    split
    · exact .refl _
    · exact (List.Perm.cons y (insI_perm x ys)).trans (.swap x y ys)
theorem srtI_perm : ∀ xs, (srtI xs).Perm xs
  | [] => .refl _
  | x :: xs => (insI_perm x _).trans (.cons x (srtI_perm xs))
theorem insI_sorted (x : Int) : ∀ {ys : List Int}, ys.Pairwise (· ≤ ·) → (insI x ys).Pairwise (· ≤ ·)
  | [], _ => by simp [insI]
  | y :: ys, h => by
    unfold insI
    split
    · rename_i hxy
      refine List.pairwise_cons.mpr ⟨fun z hz => ?_, h⟩
      rcases List.mem_cons.mp hz with hz | hz
      · subst hz; exact hxy
      · exact Int.le_trans hxy ((List.pairwise_cons.mp h).1 z hz)
    · rename_i hxy
      refine List.pairwise_cons.mpr ⟨fun z hz => ?_, insI_sorted x (List.pairwise_cons.mp h).2⟩
      rcases List.mem_cons.mp ((insI_perm x ys).mem_iff.mp hz) with hz | hz
      · subst hz; omega
      · exact (List.pairwise_cons.mp h).1 z hz
theorem srtI_sorted : ∀ xs, (srtI xs).Pairwise (· ≤ ·)
  | [] => List.Pairwise.nil
  | x :: xs => insI_sorted x (srtI_sorted xs)
theorem srt_uniq : ∀ {xs ys : List Int}, xs.Perm ys → xs.Pairwise (· ≤ ·) → ys.Pairwise (· ≤ ·) → xs = ys
  | [], ys, p, _, _ => by simpa using p.symm.eq_nil
  | x :: xs, [], p, _, _ => by simpa using p.eq_nil
  | x :: xs, y :: ys, p, hx, hy => by
    have h1 : x ≤ y := by
      rcases List.mem_cons.mp (p.symm.subset (List.mem_cons_self ..) : y ∈ x :: xs) with h | h
      · omega
      · exact (List.pairwise_cons.mp hx).1 y h
    have h2 : y ≤ x := by
      rcases List.mem_cons.mp (p.subset (List.mem_cons_self ..) : x ∈ y :: ys) with h | h
      · omega
      · exact (List.pairwise_cons.mp hy).1 x h
    have e : x = y := by omega
    subst e
    rw [srt_uniq (List.Perm.cons_inv p) (List.pairwise_cons.mp hx).2 (List.pairwise_cons.mp hy).2]
theorem rc_sorted : RCL (rSorted K) (aC (rL rI) aN) rI (fun i => if i.1.length < 64 then some (srtI i.1) else none) := fun vs i z H G hv hz e Q q => by
  obtain ⟨v, ws, rfl, ⟨a, us, rfl, h2, h3⟩, rfl⟩ := hv
  have hz : (if i.1.length < 64 then some (srtI i.1) else none) = some z := hz
  split at hz
  · rename_i hl
    cases hz
    have h3' := pr_ints h3
    subst h3'
    refine ⟨a, i.1, rfl, Or.inl (Or.inl (e a _ h2)), hl, fun ns' p hp hs hn => ?_⟩
    have : ns' = srtI i.1 := srt_uniq (hp.trans (srtI_perm _).symm) hs (srtI_sorted _)
    subst this
    exact q p _ G hn (up_new e hn) (wd_new e hn (ints_pr _))
  · cases hz
def minL : List Int → Option Int
  | [] => none
  | [x] => some x
  | x :: y :: ys => (minL (y :: ys)).map fun m => if m < x then m else x
def maxL : List Int → Option Int
  | [] => none
  | [x] => some x
  | x :: y :: ys => (maxL (y :: ys)).map fun m => if m > x then m else x
theorem minL_ok : ∀ {xs : List Int} {m : Int}, minL xs = some m → m ∈ xs ∧ ∀ y ∈ xs, m ≤ y
  | [x], m, h => by cases h; exact ⟨List.mem_cons_self .., fun y hy => by rw [List.mem_singleton.mp hy]; exact Int.le_refl _⟩
  | x :: y :: ys, m, h => by
    unfold minL at h
    cases e : minL (y :: ys) with
    | none => rw [e] at h; cases h
    | some k =>
      obtain ⟨h1, h2⟩ := minL_ok e
      rw [e] at h
      have h' : (if k < x then k else x) = m := Option.some.inj h
      split at h'
      · subst h'
        exact ⟨List.mem_cons_of_mem _ h1, fun z hz => by
          rcases List.mem_cons.mp hz with hz | hz
          · omega
          · exact h2 z hz⟩
      · subst h'
        exact ⟨List.mem_cons_self .., fun z hz => by
          rcases List.mem_cons.mp hz with hz | hz
          · omega
          · have := h2 z hz; omega⟩
theorem maxL_ok : ∀ {xs : List Int} {m : Int}, maxL xs = some m → m ∈ xs ∧ ∀ y ∈ xs, y ≤ m
  | [x], m, h => by cases h; exact ⟨List.mem_cons_self .., fun y hy => by rw [List.mem_singleton.mp hy]; exact Int.le_refl _⟩
  | x :: y :: ys, m, h => by
    unfold maxL at h
    cases e : maxL (y :: ys) with
    | none => rw [e] at h; cases h
    | some k =>
      obtain ⟨h1, h2⟩ := maxL_ok e
      rw [e] at h
      have h' : (if k > x then k else x) = m := Option.some.inj h
      split at h'
      · subst h'
        exact ⟨List.mem_cons_of_mem _ h1, fun z hz => by
          rcases List.mem_cons.mp hz with hz | hz
          · omega
          · exact h2 z hz⟩
      · subst h'
        exact ⟨List.mem_cons_self .., fun z hz => by
          rcases List.mem_cons.mp hz with hz | hz
          · omega
          · have := h2 z hz; omega⟩
theorem rc_minL : RC (rMin K) (aC (rL rI) aN) rI (fun i => minL i.1) := fun vs i z H G hv hz e Q q => by
  obtain ⟨v, ws, rfl, ⟨a, us, rfl, h2, h3⟩, rfl⟩ := hv
  have h3' := pr_ints h3
  subst h3'
  obtain ⟨m1, m2⟩ := minL_ok hz
  refine ⟨a, i.1, rfl, Or.inl (Or.inl (e a _ h2)), List.length_pos_of_mem m1, fun m hm hle => ?_⟩
  have : m = z := by have := hle z m1; have := m2 m hm; omega
  subst this
  exact q _ H G (Up.refl e) rfl
theorem rc_maxL : RC (rMax K) (aC (rL rI) aN) rI (fun i => maxL i.1) := fun vs i z H G hv hz e Q q => by
  obtain ⟨v, ws, rfl, ⟨a, us, rfl, h2, h3⟩, rfl⟩ := hv
  have h3' := pr_ints h3
  subst h3'
  obtain ⟨m1, m2⟩ := maxL_ok hz
  refine ⟨a, i.1, rfl, Or.inl (Or.inl (e a _ h2)), List.length_pos_of_mem m1, fun m hm hle => ?_⟩
  have : m = z := by have := hle z m1; have := m2 m hm; omega
  subst this
  exact q _ H G (Up.refl e) rfl

/-! ### displays -/
theorem el_lst {ta : TA} {B : AR ι} {m : Option ι} {xs : ι → List α} (h : EA ta σ G W B m) (hb : ∀ G vs i, B.r G vs i → Paired (R.r G) vs (xs i)) (hl : ∀ i, (xs i).length < 100000) : EL (tLst ta) σ G W R (m >>= fun i => some (xs i)) := fun z hz H e e' Q q => by
  obtain ⟨i, hi, hz⟩ := bindS hz
  cases hz
  refine h i hi H e e' _ fun vs H1 G1 u1 r1 => ?_
  have pr := hb _ _ _ r1
  refine ⟨sz_of (by rw [pr.length]; exact Nat.le_of_lt (hl i)), fun p hp => q p _ G1 (fresh_back u1.hh hp) (u1.trans (up_new u1.gh hp)) (wd_new u1.gh hp pr)⟩
theorem e_pair {ma : Option α} {mb : Option β} (ha : E ta σ G W R ma) (hb : E tb σ G W S mb) : E (tTup (tCons ta (tCons tb tNil))) σ G W (rP R S) (ma >>= fun x => mb >>= fun y => some (x, y)) := fun z hz H e e' Q q => by
  obtain ⟨x, hx, hz⟩ := bindS hz
  obtain ⟨y, hy, hz⟩ := bindS hz
  cases hz
  refine ha x hx H e e' _ fun v H1 G1 u1 r1 => ?_
  refine (hb.mono u1.gg (e'.trans u1.hh)) y hy H1 u1.gh (Ex.refl _) _ fun w H2 G2 u2 r2 => ?_
  refine ⟨by show 2 ≤ sizeLine; decide, fun p hp => q _ _ _ ((u1.trans u2).trans (Up.lay u2.gh hp)) ⟨p, v, w, rfl, upd_same, R.mono (u2.gg.trans (Ex.new (fresh_back u2.gh hp))) r1, S.mono (Ex.new (fresh_back u2.gh hp)) r2⟩⟩
end
end Sim

namespace Sim
open PySem L2 Evl

/-! ### mirrors of loops -/
inductive Stp (σ ρ : Type) where
  | nx (s : σ)
  | br (s : σ)
  | rt (r : ρ)
section
variable {α σ ρ : Type}
def stpK (k : σ → Option (σ ⊕ ρ)) : Stp σ ρ → Option (σ ⊕ ρ)
  | .nx s => k s
  | .br s => some (.inl s)
  | .rt r => some (.inr r)
def forL (body : α → σ → Option (Stp σ ρ)) : List α → σ → Option (σ ⊕ ρ)
  | [], s => some (.inl s)
  | x :: xs, s => body x s >>= stpK (forL body xs)
def forS (body : α → σ → Option σ) : List α → σ → Option σ
  | [], s => some s
  | x :: xs, s => body x s >>= forS body xs
def whL (c : σ → Option Bool) (body : σ → Option (Stp σ ρ)) : Nat → σ → Option (σ ⊕ ρ)
  | 0, _ => none
  | n + 1, s => c s >>= fun b => bif b then body s >>= stpK (whL c body n) else some (.inl s)
theorem drop_at {xs : List α} {i : Nat} {x : α} (h : xs[i]? = some x) : xs.drop i = x :: xs.drop (i + 1) := by
  obtain ⟨hl, e⟩ := List.getElem?_eq_some_iff.mp h
  rw [List.drop_eq_getElem_cons hl, e]
theorem forL_at {body : α → σ → Option (Stp σ ρ)} {xs : List α} {i : Nat} {x : α} {s : σ} {r : σ ⊕ ρ} (h : xs[i]? = some x) (hm : forL body (xs.drop i) s = some r) :
    ∃ t, body x s = some t ∧ stpK (forL body (xs.drop (i + 1))) t = some r := by
  rw [drop_at h] at hm
  exact bindS hm
theorem forL_end {body : α → σ → Option (Stp σ ρ)} {xs : List α} {s : σ} {r : σ ⊕ ρ} (hm : forL body (xs.drop xs.length) s = some r) : .inl s = r := by
  rw [List.drop_length] at hm
  exact Option.some.inj hm
theorem forS_at {body : α → σ → Option σ} {xs : List α} {i : Nat} {x : α} {s r : σ} (h : xs[i]? = some x) (hm : forS body (xs.drop i) s = some r) :
    ∃ t, body x s = some t ∧ forS body (xs.drop (i + 1)) t = some r := by
  rw [drop_at h] at hm
  exact bindS hm
theorem forS_end {body : α → σ → Option σ} {xs : List α} {s r : σ} (hm : forS body (xs.drop xs.length) s = some r) : s = r := by
  rw [List.drop_length] at hm
  exact Option.some.inj hm
end
/-- range(lo, hi) -/
def rng (lo hi : Int) : List Int := (List.range (hi - lo).toNat).map fun (i : Nat) => lo + (i : Int)
theorem rng_at {lo hi : Int} {i : Nat} {x : Int} (h : (rng lo hi)[i]? = some x) : x = lo + i ∧ lo + i < hi := by
  unfold rng at h
  rw [List.getElem?_map] at h
  cases e : (List.range (hi - lo).toNat)[i]? with
  | none => rw [e] at h; cases h
  | some k =>
    rw [e] at h
    obtain ⟨hl, ek⟩ := List.getElem?_eq_some_iff.mp e
    rw [List.getElem_range] at ek
    rw [List.length_range] at hl
    subst ek
    exact ⟨(Option.some.inj h).symm, by omega⟩
theorem rng_get {lo hi : Int} {i : Nat} (h : i < (hi - lo).toNat) : (rng lo hi)[i]? = some (lo + i) := by
  unfold rng
  rw [List.getElem?_map, List.getElem?_range h]
  rfl
theorem rng_len (lo hi : Int) : (rng lo hi).length = (hi - lo).toNat := by
  unfold rng
  rw [List.length_map, List.length_range]
def rngM (lo hi : Int) : Option (List Int) := if -100000 ≤ lo ∧ lo ≤ 100000 ∧ -100000 ≤ hi ∧ hi ≤ 100000 then some (rng lo hi) else none

/-! ### the world of a def -/
structure Wo (G0 H0 : Hp) (ls : List Addr) (G H : Hp) (cs : Cs) : Prop where
  w : Wd G H cs
  f : Fr G0 H0 G H ls
  lo : ∀ c ∈ cs, c.1 ∈ ls ∨ H0 c.1 = none
section
variable {K : PySem.W.Frag} {σ : L2.St} {G0 H0 G H G2 H2 : Hp} {ls : List Addr} {cs : Cs} {l : Addr} {cp cp' : CP} {ta tb te tc : TE} {t u : TT} {α β γ ι κ : Type} {R : Rep α} {S : Rep β} {T : Rep γ} {A : AR ι}
theorem Wo.ex (w : Wo G0 H0 ls G H cs) : Ex G H := w.w.ex
theorem Wo.up (w : Wo G0 H0 ls G H cs) (u : Up G H G2 H2) : Wo G0 H0 ls G2 H2 cs := ⟨w.w.up u, w.f.trans u.fr, w.lo⟩
theorem Wo.sc (w : Wo G0 H0 ls G H cs) (u : Ex H H2) : Wo G0 H0 ls G H2 cs := w.up (Up.same w.ex u)
theorem Wo.start (e : Ex G H) : Wo G H [] G H [] := ⟨Wd.nil e, Fr.refl, fun _ h => absurd h List.not_mem_nil⟩
theorem Wo.startC (w : Wd G H cs) : Wo G H (cs.map (·.1)) G H cs := ⟨w, Fr.refl, fun c h => .inl (List.mem_map_of_mem (f := (·.1)) h)⟩
/-- the i-th cell -/
theorem Wd.getAt {i : Nat} (w : Wd G H cs) (h : cs[i]? = some (l, cp)) : G l = none ∧ ∃ o, H l = some o ∧ cp.p G o := w.at_ _ (List.mem_of_getElem? h)
theorem Wo.rlAt {i : Nat} {xs : List α} (w : Wo G0 H0 ls G H cs) (h : cs[i]? = some (l, cL R xs)) : (rL R).r H (.ref l) xs := by
  obtain ⟨h1, o, h2, vs, rfl, h3⟩ := w.w.getAt h
  exact ⟨l, vs, rfl, h2, Paired.mapP h3 fun _ _ => R.mono w.ex⟩
theorem set_map {i : Nat} {c : Addr × CP} (h : cs[i]? = some c) : (cs.set i (c.1, cp')).map (·.1) = cs.map (·.1) := by
  rw [List.map_set]
  have : (cs.map (·.1))[i]? = some c.1 := by rw [List.getElem?_map, h]; rfl
  obtain ⟨hl, e⟩ := List.getElem?_eq_some_iff.mp this
  conv => lhs; rw [← e]
  exact List.set_getElem_self hl
theorem nodup_ix {as : List Addr} (nd : as.Nodup) {i j : Nat} {x : Addr} (h1 : as[i]? = some x) (h2 : as[j]? = some x) : i = j := by
  obtain ⟨a1, a2⟩ := List.getElem?_eq_some_iff.mp h1
  obtain ⟨b1, b2⟩ := List.getElem?_eq_some_iff.mp h2
  have p := List.pairwise_iff_getElem.mp nd
  rcases Nat.lt_trichotomy i j with q | q | q
  · exact absurd (a2.trans b2.symm) (p i j a1 b1 q)
  · exact q
  · exact absurd (b2.trans a2.symm) (p j i b1 a1 q)
theorem mem_set_cell {i : Nat} {c : Addr × CP} (nd : (cs.map (·.1)).Nodup) (h : cs[i]? = some (l, cp)) (hc : c ∈ cs.set i (l, cp')) : c = (l, cp') ∨ (c ∈ cs ∧ c.1 ≠ l) := by
  obtain ⟨j, hj, e⟩ := List.getElem_of_mem hc
  by_cases q : i = j
  · subst q; left; rw [← e]; simp
  · right
    rw [List.getElem_set_ne q] at e
    have hj' : j < cs.length := by rw [List.length_set] at hj; exact hj
    refine ⟨e ▸ List.getElem_mem hj', fun z => q ?_⟩
    have h1 : (cs.map (·.1))[i]? = some l := by rw [List.getElem?_map, h]; rfl
    have h2 : (cs.map (·.1))[j]? = some l := by rw [List.getElem?_map, List.getElem?_eq_getElem hj', e]; exact congrArg some z
    exact nodup_ix nd h1 h2
theorem Fr.put (f : Fr G0 H0 G H ls) {o : HO} (h : l ∈ ls ∨ H0 l = none) : Fr G0 H0 G (upd H l o) ls := ⟨f.gg, fun a u h1 h2 => by
  have ne : a ≠ l := fun z => by
    subst z
    rcases h with h | h
    · exact h2 h
    · rw [h] at h1; cases h1
  rw [upd_ne ne]; exact f.fr a u h1 h2, f.nw, fun a h1 => by
  by_cases q : a = l
  · subst q; rw [upd_same]; simp
  · rw [upd_ne q]; exact f.st a h1⟩
theorem Wo.writeAt {i : Nat} (w : Wo G0 H0 ls G H cs) (h : cs[i]? = some (l, cp)) {o : HO} (hp : cp'.p G o) : Wo G0 H0 ls G (upd H l o) (cs.set i (l, cp')) := by
  obtain ⟨h1, o1, h2, h3⟩ := w.w.getAt h
  have hl : l ∈ ls ∨ H0 l = none := w.lo _ (List.mem_of_getElem? h)
  refine ⟨⟨fun a u e => ?_, fun c hc => ?_, ?_⟩, w.f.put hl, fun c hc => ?_⟩
  · rw [upd_ne (fun z => by subst z; rw [h1] at e; cases e)]; exact w.ex a u e
  · rcases mem_set_cell w.w.nd h hc with hc | ⟨hc, ne⟩
    · subst hc; exact ⟨h1, o, upd_same, hp⟩
    · obtain ⟨k1, o', k2, k3⟩ := w.w.at_ c hc
      exact ⟨k1, o', by rw [upd_ne ne]; exact k2, k3⟩
  · rw [set_map (c := (l, cp)) h]; exact w.w.nd
  · rcases mem_set_cell w.w.nd h hc with hc | ⟨hc, ne⟩
    · subst hc; exact hl
    · exact w.lo c hc
theorem Wo.new (w : Wo G0 H0 ls G H cs) {o : HO} (n : H l = none) (h : cp.p G o) : Wo G0 H0 ls G (upd H l o) ((l, cp) :: cs) := by
  have n0 : H0 l = none := by
    cases q : H0 l with
    | none => rfl
    | some o => exact absurd n (w.f.st l (by rw [q]; simp))
  exact ⟨w.w.new n h, w.f.put (.inr n0), fun c hc => by
    rcases List.mem_cons.mp hc with hc | hc
    · subst hc; exact .inr n0
    · exact w.lo c hc⟩
/-- a new list made by an expression becomes a cell -/
theorem Wo.newL {p : Addr} {xs : List α} (w : Wo G0 H0 ls G H cs) (n : H p = none) (u : Up G H G2 H2) (w2 : Wd G2 H2 [(p, cL R xs)]) : Wo G0 H0 ls G2 H2 ((p, cL R xs) :: cs) := by
  have n0 : H0 p = none := by
    cases q : H0 p with
    | none => rfl
    | some o => exact absurd n (w.f.st p (by rw [q]; simp))
  have w3 := w.up u
  refine ⟨⟨w3.ex, fun c hc => ?_, ?_⟩, w3.f, fun c hc => ?_⟩
  · rcases List.mem_cons.mp hc with hc | hc
    · subst hc; exact w2.head
    · exact w3.w.at_ c hc
  · refine List.nodup_cons.mpr ⟨fun hm => ?_, w.w.nd⟩
    obtain ⟨c, hc, e⟩ := List.mem_map.mp hm
    obtain ⟨_, o', h2, _⟩ := w.w.at_ c hc
    exact ne_of_none h2 n e
  · rcases List.mem_cons.mp hc with hc | hc
    · subst hc; exact .inr n0
    · exact w.lo c hc
theorem Wo.dropAt (w : Wo G0 H0 ls G H cs) (i : Nat) : Wo G0 H0 ls G H (cs.eraseIdx i) := ⟨⟨w.ex, fun c hc => w.w.at_ c (List.mem_of_mem_eraseIdx hc), 
  List.Pairwise.sublist ((List.eraseIdx_sublist cs i).map (·.1)) w.w.nd⟩, w.f, fun c hc => w.lo c (List.mem_of_mem_eraseIdx hc)⟩
/-- a list cell of the def's own becomes data -/
theorem Wo.freezeAt {i : Nat} {xs : List α} (w : Wo G0 H0 ls G H cs) (h : cs[i]? = some (l, cL R xs)) (hl : H0 l = none) : ∃ G2, Wo G0 H0 ls G2 H (cs.eraseIdx i) ∧ Ex G G2 ∧ (rL R).r G2 (.ref l) xs := by
  obtain ⟨h1, o, h2, vs, rfl, h3⟩ := w.w.getAt h
  refine ⟨upd G l (.lst vs), ⟨⟨fun a u e => ?_, fun c hc => ?_, ?_⟩, ⟨w.f.gg.trans (Ex.new h1), w.f.fr, fun a k1 k2 => ?_, w.f.st⟩, fun c hc => w.lo c (List.mem_of_mem_eraseIdx hc)⟩, Ex.new h1, l, vs, rfl, upd_same, Paired.mapP h3 fun _ _ => R.mono (Ex.new h1)⟩
  · by_cases q : a = l
    · subst q; rw [upd_same] at e; cases e; exact h2
    · rw [upd_ne q] at e; exact w.ex a u e
  · obtain ⟨k1, o', k2, k3⟩ := w.w.at_ c (List.mem_of_mem_eraseIdx hc)
    obtain ⟨j, hj, e⟩ := List.getElem?_of_mem hc |>.imp fun _ h => (⟨trivial, h⟩ : True ∧ _)
    have ne : c.1 ≠ l := fun z => by
      rw [List.getElem?_eraseIdx] at e
      have hi : (cs.map (·.1))[i]? = some l := by rw [List.getElem?_map, h]; rfl
      split at e
      · rename_i hlt
        have : (cs.map (·.1))[j]? = some l := by rw [List.getElem?_map, e]; exact congrArg some z
        have := nodup_ix w.w.nd hi this
        omega
      · rename_i hlt
        have : (cs.map (·.1))[j + 1]? = some l := by rw [List.getElem?_map, e]; exact congrArg some z
        have := nodup_ix w.w.nd hi this
        omega
    exact ⟨by rw [upd_ne ne]; exact k1, o', k2, c.2.mono (Ex.new h1) k3⟩
  · exact List.Pairwise.sublist ((List.eraseIdx_sublist cs i).map (·.1)) w.w.nd
  · have ne : a ≠ l := fun z => by subst z; exact k1 hl
    rw [upd_ne ne]; exact w.f.nw a k1 k2
/-- behind a call that changed the i-th cell alone -/
theorem Wo.call1 {i : Nat} (w : Wo G0 H0 ls G H cs) (h : cs[i]? = some (l, cp)) (f : Fr G H G2 H2 [l]) (w2 : Wd G2 H2 [(l, cp')]) : Wo G0 H0 ls G2 H2 (cs.set i (l, cp')) := by
  have hl : l ∈ ls ∨ H0 l = none := w.lo _ (List.mem_of_getElem? h)
  refine ⟨⟨w2.ex, fun c hc => ?_, by rw [set_map (c := (l, cp)) h]; exact w.w.nd⟩, ⟨w.f.gg.trans f.gg, fun a o h1 h2 => ?_, fun a h1 h2 => f.nw a (w.f.st a h1) (w.f.nw a h1 h2), fun a h1 => f.st a (w.f.st a h1)⟩, fun c hc => ?_⟩
  · rcases mem_set_cell w.w.nd h hc with hc | ⟨hc, ne⟩
    · subst hc; exact w2.head
    · obtain ⟨k1, o', k2, k3⟩ := w.w.at_ c hc
      exact ⟨f.nw _ (by rw [k2]; simp) k1, o', f.fr _ _ k2 (fun z => ne (List.mem_singleton.mp z)), c.2.mono f.gg k3⟩
  · refine f.fr a o (w.f.fr a o h1 h2) fun z => ?_
    rw [List.mem_singleton.mp z] at h1 h2
    rcases hl with q | q
    · exact h2 q
    · rw [q] at h1; cases h1
  · rcases mem_set_cell w.w.nd h hc with hc | ⟨hc, ne⟩
    · subst hc; exact hl
    · exact w.lo c hc
theorem Wo.sub1 {i : Nat} (w : Wo G0 H0 ls G H cs) (h : cs[i]? = some (l, cp)) : Wd G H [(l, cp)] := ⟨w.ex, fun c hc => by
  rw [List.mem_singleton.mp hc]; exact w.w.at_ _ (List.mem_of_getElem? h), List.nodup_cons.mpr ⟨List.not_mem_nil, List.nodup_nil⟩⟩
/-- the ends of a def -/
theorem Wo.upE (w : Wo G0 H0 [] G H cs) : Up G0 H0 G H := ⟨w.f.gg, w.ex, fun a o h => w.f.fr a o h List.not_mem_nil, w.f.nw⟩
end
end Sim

namespace Sim
open PySem L2 Evl
section
variable {K : PySem.W.Frag} {σ : L2.St} {G0 H0 G H G2 H2 W : Hp} {ls : List Addr} {cs : Cs} {l : Addr} {cp cp' : CP} {ta tb te tc : TE} {t u : TT} {α β γ ι κ : Type} {R : Rep α} {S : Rep β} {T : Rep γ} {A : AR ι} {D : Ends} {tu tv tz : TS} {g : TG}

/-! ### expressions in the world -/
theorem c_e {m : Option α} {x : α} {Q : VK} (w : Wo G0 H0 ls G H cs) (h : E te σ G H R m) (hm : m = some x) (k : ∀ v H2 G2, Wo G0 H0 ls G2 H2 cs → Ex G G2 → R.r G2 v x → Q v H2) : te σ H Q :=
  h x hm H w.ex (Ex.refl _) Q fun v H2 G2 u r => k v H2 G2 (w.up u) u.gg r
/-- scalars: the value is written out, the data heap stays -/
theorem c_i {m : Option Int} {x : Int} {Q : VK} (w : Wo G0 H0 ls G H cs) (h : E te σ G H rI m) (hm : m = some x) (k : ∀ H2, Wo G0 H0 ls G H2 cs → Q (.int x) H2) : te σ H Q :=
  h x hm H w.ex (Ex.refl _) Q fun v H2 G2 u r => by cases r; exact k H2 (w.sc u.hh)
theorem c_b {m : Option Bool} {x : Bool} {Q : VK} (w : Wo G0 H0 ls G H cs) (h : E te σ G H rB m) (hm : m = some x) (k : ∀ H2, Wo G0 H0 ls G H2 cs → Q (.bl x) H2) : te σ H Q :=
  h x hm H w.ex (Ex.refl _) Q fun v H2 G2 u r => by cases r; exact k H2 (w.sc u.hh)
theorem c_s {m : Option Str} {x : Str} {Q : VK} (w : Wo G0 H0 ls G H cs) (h : E te σ G H rS m) (hm : m = some x) (k : ∀ H2, Wo G0 H0 ls G H2 cs → Q (.str x) H2) : te σ H Q :=
  h x hm H w.ex (Ex.refl _) Q fun v H2 G2 u r => by cases r; exact k H2 (w.sc u.hh)
theorem c_l {m : Option (List α)} {x : List α} {Q : VK} (w : Wo G0 H0 ls G H cs) (h : EL te σ G H R m) (hm : m = some x) (k : ∀ p H2 G2, H0 p = none → Wo G0 H0 ls G2 H2 ((p, cL R x) :: cs) → Ex G G2 → Q (.ref p) H2) : te σ H Q :=
  h x hm H w.ex (Ex.refl _) Q fun p H2 G2 hp u w2 => k p H2 G2 (by
    cases q : H0 p with
    | none => rfl
    | some o => exact absurd hp (w.f.st p (by rw [q]; simp))) (w.newL hp u w2) u.gg
theorem c_t {m : Option Bool} {b : Bool} {Q : Bool → Hp → Prop} (w : Wo G0 H0 ls G H cs) (h : ET t σ H m) (hm : m = some b) (k : ∀ H2, Wo G0 H0 ls G H2 cs → Q b H2) : t σ H Q :=
  h b hm H (Ex.refl _) Q fun H2 e => k H2 (w.sc e)
theorem c_a {m : Option ι} {x : ι} {ta : TA} {Q : List V → Hp → Prop} (w : Wo G0 H0 ls G H cs) (h : EA ta σ G H A m) (hm : m = some x) (k : ∀ vs H2 G2, Wo G0 H0 ls G2 H2 cs → Ex G G2 → A.r G2 vs x → Q vs H2) : ta σ H Q :=
  h x hm H w.ex (Ex.refl _) Q fun v H2 G2 u r => k v H2 G2 (w.up u) u.gg r
/-- an operation on values that stand -/
theorem c_rr {r : R2} {f : α → β → Option γ} {v w' : V} {x : α} {y : β} {z : γ} {Q : VK} (hr : RR r R S T f) (w : Wo G0 H0 ls G H cs) (hv : R.r G v x) (hw : S.r G w' y) (hz : f x y = some z)
    (k : ∀ u H2 G2, Wo G0 H0 ls G2 H2 cs → Ex G G2 → T.r G2 u z → Q u H2) : r v w' H Q := hr v w' x y z H G hv hw hz w.ex Q fun u H2 G2 up r => k u H2 G2 (w.up up) up.gg r
theorem c_rc {r : List V → Hp → VK → Prop} {f : ι → Option γ} {vs : List V} {i : ι} {z : γ} {Q : VK} (hr : RC r A T f) (w : Wo G0 H0 ls G H cs) (hv : A.r G vs i) (hz : f i = some z)
    (k : ∀ u H2 G2, Wo G0 H0 ls G2 H2 cs → Ex G G2 → T.r G2 u z → Q u H2) : r vs H Q := hr vs i z H G hv hz w.ex Q fun u H2 G2 up r => k u H2 G2 (w.up up) up.gg r
theorem c_rcl {r : List V → Hp → VK → Prop} {f : ι → Option (List γ)} {vs : List V} {i : ι} {z : List γ} {Q : VK} (hr : RCL r A T f) (w : Wo G0 H0 ls G H cs) (hv : A.r G vs i) (hz : f i = some z)
    (k : ∀ p H2 G2, H0 p = none → Wo G0 H0 ls G2 H2 ((p, cL T z) :: cs) → Ex G G2 → Q (.ref p) H2) : r vs H Q := hr vs i z H G hv hz w.ex Q fun p H2 G2 hp u w2 => k p H2 G2 (by
    cases q : H0 p with
    | none => rfl
    | some o => exact absurd hp (w.f.st p (by rw [q]; simp))) (w.newL hp u w2) u.gg

/-! ### a def that changes one cell -/
/-- (l, more) with the cell's items ys: f ys more = (x, ys') -/
abbrev P1 {κ α ι : Type} (A : AR ι) (C : Rep κ) (R : Rep α) (f : List κ → ι → Option (α × List κ)) : Sp := PM (aC rA A) (fun i k => [(i.1, cL C k)]) R (fun i k => f k i.2)
abbrev P1L {κ α ι : Type} (A : AR ι) (C : Rep κ) (R : Rep α) (f : List κ → ι → Option (List α × List κ)) : Sp := PML (aC rA A) (fun i k => [(i.1, cL C k)]) R (fun i k => f k i.2)
theorem c_p1 {C : Rep κ} {f : List κ → ι → Option (α × List κ)} {vs : List V} {i : Nat} {j : ι} {ys ys' : List κ} {x : α} {Q : VK} {X : XK} (w : Wo G0 H0 ls G H cs) (hc : cs[i]? = some (l, cL C ys)) (hv : A.r G vs j) (hz : f ys j = some (x, ys'))
    (k : ∀ v H2 G2, Wo G0 H0 ls G2 H2 (cs.set i (l, cL C ys')) → Ex G G2 → R.r G2 v x → Q v H2) : P1 A C R f (.ref l :: vs) H Q X :=
  ⟨G, (l, j), ys, x, ys', ⟨.ref l, vs, rfl, rfl, hv⟩, w.sub1 hc, hz, fun v H2 G2 fr w2 r => k v H2 G2 (w.call1 hc fr w2) fr.gg r⟩
theorem Wo.call1L {i : Nat} {p : Addr} {cq : CP} (w : Wo G0 H0 ls G H cs) (h : cs[i]? = some (l, cp)) (hp : H p = none) (f : Fr G H G2 H2 [l]) (w2 : Wd G2 H2 [(p, cq), (l, cp')]) : Wo G0 H0 ls G2 H2 ((p, cq) :: cs.set i (l, cp')) := by
  have n0 : H0 p = none := by
    cases q : H0 p with
    | none => rfl
    | some o => exact absurd hp (w.f.st p (by rw [q]; simp))
  have w3 := w.call1 h f w2.tail
  refine ⟨⟨w3.ex, fun c hc => ?_, ?_⟩, w3.f, fun c hc => ?_⟩
  · rcases List.mem_cons.mp hc with hc | hc
    · subst hc; exact w2.head
    · exact w3.w.at_ c hc
  · refine List.nodup_cons.mpr ⟨fun hm => ?_, w3.w.nd⟩
    rw [Sim.set_map (c := (l, cp)) h] at hm
    obtain ⟨c, hc, e⟩ := List.mem_map.mp hm
    obtain ⟨_, o', h2, _⟩ := w.w.at_ c hc
    exact ne_of_none h2 hp e
  · rcases List.mem_cons.mp hc with hc | hc
    · subst hc; exact .inr n0
    · exact w3.lo c hc
theorem c_p1l {C : Rep κ} {f : List κ → ι → Option (List α × List κ)} {vs : List V} {i : Nat} {j : ι} {ys ys' : List κ} {x : List α} {Q : VK} {X : XK} (w : Wo G0 H0 ls G H cs) (hc : cs[i]? = some (l, cL C ys)) (hv : A.r G vs j) (hz : f ys j = some (x, ys'))
    (k : ∀ p H2 G2, H0 p = none → Wo G0 H0 ls G2 H2 ((p, cL R x) :: cs.set i (l, cL C ys')) → Ex G G2 → Q (.ref p) H2) : P1L A C R f (.ref l :: vs) H Q X :=
  ⟨G, (l, j), ys, x, ys', ⟨.ref l, vs, rfl, rfl, hv⟩, w.sub1 hc, hz, fun p H2 G2 hp fr w2 => k p H2 G2 (by
    cases q : H0 p with
    | none => rfl
    | some o => exact absurd hp (w.f.st p (by rw [q]; simp))) (w.call1L hc hp fr w2) fr.gg⟩

/-! ### readings opened -/
theorem o_nil {Q : List V → Hp → Prop} (h : Q [] H) : tNil σ H Q := h
theorem o_cons {tr : TA} {Q : List V → Hp → Prop} (h : ta σ H fun x H1 => tr σ H1 fun xs H2 => Q (x :: xs) H2) : tCons ta tr σ H Q := h
theorem o_op {r : R2} {Q : VK} (h : ta σ H fun x H1 => tb σ H1 fun y H2 => r x y H2 Q) : tOp r ta tb σ H Q := h
theorem o_call {sp : Sp} {X : XK} {ta : TA} {Q : VK} (h : ta σ H fun vs H1 => sp vs H1 Q X) : tCall sp [] X ta σ H Q := by
  show ta σ H fun vs H1 => sp (vs ++ []) H1 Q X
  have : (fun (vs : List V) (H1 : Hp) => sp (vs ++ []) H1 Q X) = fun vs H1 => sp vs H1 Q X := by funext vs H1; rw [List.append_nil]
  rw [this]; exact h
theorem o_cb {r : List V → Hp → VK → Prop} {ta : TA} {Q : VK} (h : ta σ H fun vs H1 => r vs H1 Q) : tCB r ta σ H Q := h
theorem o_var {i : Nat} {v : V} {Q : VK} (hi : σ[i]? = some (some v)) (h : Q v H) : tVar i σ H Q := ⟨v, hi, h⟩
theorem o_T {Q : Bool → Hp → Prop} (h : te σ H fun v H1 => ∃ b, v = .bl b ∧ Q b H1) : tTest te σ H Q := h
theorem o_B {Q : Bool → Hp → Prop} (h : te σ H fun v H1 => ∃ b, v = .bl b ∧ Q b H1) : tB te σ H Q := h

/-! ### statements -/
theorem x_next {f b c : L2.St → Hp → Prop} {r : VK} (h : f σ H) : tNext { nx := f, rt := r, bk := b, ct := c } σ H := h
theorem x_set {i : Nat} {m : Option α} {x : α} (w : Wo G0 H0 ls G H cs) (h : E te σ G H R m) (hm : m = some x) (k : ∀ v H2 G2, Wo G0 H0 ls G2 H2 cs → Ex G G2 → R.r G2 v x → tz D (σ.set i (some v)) H2) : tSeq (tAsg te (gName i)) tz D σ H :=
  c_e (Q := fun x H1 => gName i x σ H1 (tz D)) w h hm k
theorem x_setI {i : Nat} {m : Option Int} {x : Int} (w : Wo G0 H0 ls G H cs) (h : E te σ G H rI m) (hm : m = some x) (k : ∀ H2, Wo G0 H0 ls G H2 cs → tz D (σ.set i (some (.int x))) H2) : tSeq (tAsg te (gName i)) tz D σ H :=
  c_i (Q := fun x H1 => gName i x σ H1 (tz D)) w h hm k
theorem x_setB {i : Nat} {m : Option Bool} {x : Bool} (w : Wo G0 H0 ls G H cs) (h : E te σ G H rB m) (hm : m = some x) (k : ∀ H2, Wo G0 H0 ls G H2 cs → tz D (σ.set i (some (.bl x))) H2) : tSeq (tAsg te (gName i)) tz D σ H :=
  c_b (Q := fun x H1 => gName i x σ H1 (tz D)) w h hm k
theorem x_setS {i : Nat} {m : Option Str} {x : Str} (w : Wo G0 H0 ls G H cs) (h : E te σ G H rS m) (hm : m = some x) (k : ∀ H2, Wo G0 H0 ls G H2 cs → tz D (σ.set i (some (.str x))) H2) : tSeq (tAsg te (gName i)) tz D σ H :=
  c_s (Q := fun x H1 => gName i x σ H1 (tz D)) w h hm k
theorem x_setL {i : Nat} {m : Option (List α)} {x : List α} (w : Wo G0 H0 ls G H cs) (h : EL te σ G H R m) (hm : m = some x) (k : ∀ p H2 G2, H0 p = none → Wo G0 H0 ls G2 H2 ((p, cL R x) :: cs) → Ex G G2 → tz D (σ.set i (some (.ref p))) H2) : tSeq (tAsg te (gName i)) tz D σ H :=
  c_l (Q := fun x H1 => gName i x σ H1 (tz D)) w h hm k
/-- name = an expression that changes cells: opened -/
theorem x_setO {i : Nat} (h : te σ H fun v H1 => tz D (σ.set i (some v)) H1) : tSeq (tAsg te (gName i)) tz D σ H := h
theorem x_if {m : Option Bool} {b : Bool} (w : Wo G0 H0 ls G H cs) (h : ET t σ H m) (hm : m = some b) (h1 : b = true → ∀ H2, Wo G0 H0 ls G H2 cs → tu { D with nx := tz D } σ H2) (h2 : b = false → ∀ H2, Wo G0 H0 ls G H2 cs → tv { D with nx := tz D } σ H2) :
    tSeq (tIfS t tu tv) tz D σ H := c_t (Q := fun b H1 => if b = true then tu { D with nx := tz D } σ H1 else tv { D with nx := tz D } σ H1) w h hm fun H2 w2 => by
  cases b with
  | true => exact h1 rfl H2 w2
  | false => exact h2 rfl H2 w2
/-- an if whose test changes cells -/
theorem x_ifO {b : Bool → Prop} (h : t σ H fun b H1 => (b = true → tu { D with nx := tz D } σ H1) ∧ (b = false → tv { D with nx := tz D } σ H1)) (mono : ∀ Q Q' : Bool → Hp → Prop, (∀ b H, Q b H → Q' b H) → t σ H Q → t σ H Q') : tSeq (tIfS t tu tv) tz D σ H :=
  mono _ _ (fun b H ⟨h1, h2⟩ => by
    cases b with
    | true => exact h1 rfl
    | false => exact h2 rfl) h
theorem x_cutif {m : Option Bool} {b : Bool} (M : L2.St → Hp → Prop) (w : Wo G0 H0 ls G H cs) (h : ET t σ H m) (hm : m = some b) (h1 : b = true → ∀ H2, Wo G0 H0 ls G H2 cs → tu { D with nx := M } σ H2) (h2 : b = false → ∀ H2, Wo G0 H0 ls G H2 cs → tv { D with nx := M } σ H2)
    (k : ∀ σ' H', M σ' H' → tz D σ' H') : tCut (tIfS t tu tv) tz D σ H := ⟨M, c_t (Q := fun b H1 => if b = true then tu { D with nx := M } σ H1 else tv { D with nx := M } σ H1) w h hm fun H2 w2 => by
  cases b with
  | true => exact h1 rfl H2 w2
  | false => exact h2 rfl H2 w2, k⟩
theorem x_ret {m : Option α} {x : α} (w : Wo G0 H0 ls G H cs) (h : E te σ G H R m) (hm : m = some x) (k : ∀ v H2 G2, Wo G0 H0 ls G2 H2 cs → Ex G G2 → R.r G2 v x → D.rt v H2) : tSeq (tRet te) tz D σ H := c_e (Q := D.rt) w h hm k
theorem x_retL {m : Option (List α)} {x : List α} (w : Wo G0 H0 ls G H cs) (h : EL te σ G H R m) (hm : m = some x) (k : ∀ p H2 G2, H0 p = none → Wo G0 H0 ls G2 H2 ((p, cL R x) :: cs) → Ex G G2 → D.rt (.ref p) H2) : tSeq (tRet te) tz D σ H := c_l (Q := D.rt) w h hm k
theorem x_retO (h : te σ H D.rt) : tSeq (tRet te) tz D σ H := h
theorem x_drop (h : te σ H fun _ H1 => tz D σ H1) : tSeq (tDrop te) tz D σ H := h
theorem x_aug {i : Nat} {a b z : Int} {m : Option Int} {f : Int → Int → Option Int} {ti : TIp} (w : Wo G0 H0 ls G H cs) (hi : σ[i]? = some (some (.int a))) (h : E te σ G H rI m) (hm : m = some b) (hr : RR ti rI rI rI f) (hz : f a b = some z)
    (k : ∀ H2, Wo G0 H0 ls G H2 cs → tz D (σ.set i (some (.int z))) H2) : tSeq (tAug i te ti) tz D σ H :=
  ⟨.int a, hi, c_i (Q := fun y H1 => ti (.int a) y H1 fun z H2 => tz D (σ.set i (some z)) H2) w h hm fun H2 w2 => hr _ _ a b z H2 G rfl rfl hz w2.ex _ fun u H3 G3 up r => by cases r; exact k H3 (w2.sc up.hh)⟩
/-! ### list cells, by methods -/
theorem x_app {i j : Nat} {m : Option α} {x : α} {xs : List α} (w : Wo G0 H0 ls G H cs) (hc : cs[j]? = some (l, cL R xs)) (hs : sz xs.length = true) (hi : σ[i]? = some (some (.ref l))) (h : E te σ G H R m) (hm : m = some x)
    (k : ∀ H2 G2, Wo G0 H0 ls G2 H2 (cs.set j (l, cL R (xs ++ [x]))) → Ex G G2 → tz D σ H2) : tSeq (tDrop (tBM K "list" rAppend (tVar i) (tCons te tNil))) tz D σ H := by
  obtain ⟨_, o, h2, vs, rfl, h3⟩ := w.w.getAt hc
  refine ⟨.ref l, hi, .inl ⟨rfl, vs, Or.inl (Or.inl h2)⟩, c_e (Q := fun x H1 => rAppend (.ref l) [x] H1 fun _ H3 => tz D σ H3) w h hm fun v H3 G3 w3 e r => ?_⟩
  obtain ⟨_, o3, k2, vs3, rfl, k3⟩ := w3.w.getAt hc
  refine ⟨l, vs3, v, rfl, rfl, k2, by rw [k3.length]; exact sz_l hs, k _ _ (w3.writeAt hc ⟨vs3 ++ [v], rfl, pr_app k3 (.cons r .nil)⟩) e⟩
/-- append, the item made by an expression that changes cells: the last step -/
theorem c_app {j : Nat} {x : α} {v : V} {xs : List α} {Q : VK} (w : Wo G0 H0 ls G H cs) (hc : cs[j]? = some (l, cL R xs)) (hs : sz xs.length = true) (r : R.r G v x) (k : ∀ H2, Wo G0 H0 ls G H2 (cs.set j (l, cL R (xs ++ [x]))) → Q .non H2) : rAppend (.ref l) [v] H Q := by
  obtain ⟨_, o3, k2, vs3, rfl, k3⟩ := w.w.getAt hc
  exact ⟨l, vs3, v, rfl, rfl, k2, by rw [k3.length]; exact sz_l hs, k _ (w.writeAt hc ⟨vs3 ++ [v], rfl, pr_app k3 (.cons r .nil)⟩)⟩
theorem o_bm {rr : V → List V → Hp → VK → Prop} {i j : Nat} {xs : List α} {ta : TA} {Q : VK} (w : Wo G0 H0 ls G H cs) (hc : cs[j]? = some (l, cL R xs)) (hi : σ[i]? = some (some (.ref l))) (h : ta σ H fun vs H2 => rr (.ref l) vs H2 Q) : tBM K "list" rr (tVar i) ta σ H Q := by
  obtain ⟨_, o, h2, vs, rfl, h3⟩ := w.w.getAt hc
  exact ⟨.ref l, hi, .inl ⟨rfl, vs, Or.inl (Or.inl h2)⟩, h⟩
theorem o_bm0 {rr : V → List V → Hp → VK → Prop} {i j : Nat} {xs : List α} {Q : VK} (w : Wo G0 H0 ls G H cs) (hc : cs[j]? = some (l, cL R xs)) (hi : σ[i]? = some (some (.ref l))) (h : rr (.ref l) [] H Q) : tBM0 K "list" rr (tVar i) σ H Q := by
  obtain ⟨_, o, h2, vs, rfl, h3⟩ := w.w.getAt hc
  exact ⟨.ref l, hi, .inl ⟨rfl, vs, Or.inl (Or.inl h2)⟩, h⟩
/-- xs.pop(), xs.pop(i), insert, reverse, clear -/
def popM (xs : List α) : Option (α × List α) := xs[xs.length - 1]? >>= fun x => some (x, xs.dropLast)
def popAtM (xs : List α) (i : Int) : Option (α × List α) := if -(2 ^ 63) ≤ i ∧ i < 2 ^ 63 then (seqIndex? i xs.length >>= fun k => xs[k]? >>= fun x => some (x, xs.eraseIdx k)) else none
def insM (xs : List α) (i : Int) (x : α) : Option (List α) := if sz xs.length = true ∧ 0 ≤ i ∧ i < 2 ^ 63 then some (xs.take i.toNat ++ [x] ++ xs.drop i.toNat) else none
def appM (xs : List α) (x : α) : Option (List α) := bif sz xs.length then some (xs ++ [x]) else none
theorem appM_ok {xs ys : List α} {x : α} (h : appM xs x = some ys) : sz xs.length = true ∧ ys = xs ++ [x] := by
  unfold appM at h
  cases e : sz xs.length with
  | true => rw [e] at h; exact ⟨rfl, (Option.some.inj h).symm⟩
  | false => rw [e] at h; cases h
theorem pr_take {R : V → α → Prop} : ∀ (n : Nat) {vs : List V} {xs : List α}, Paired R vs xs → Paired R (vs.take n) (xs.take n)
  | 0, _, _, _ => .nil
  | n + 1, _, _, .nil => .nil
  | n + 1, _, _, .cons r t => .cons r (pr_take n t)
theorem pr_drop {R : V → α → Prop} : ∀ (n : Nat) {vs : List V} {xs : List α}, Paired R vs xs → Paired R (vs.drop n) (xs.drop n)
  | 0, _, _, h => h
  | n + 1, _, _, .nil => .nil
  | n + 1, _, _, .cons r t => pr_drop n t
theorem pr_erase {R : V → α → Prop} : ∀ (n : Nat) {vs : List V} {xs : List α}, Paired R vs xs → Paired R (vs.eraseIdx n) (xs.eraseIdx n)
  | _, _, _, .nil => .nil
  | 0, _, _, .cons r t => t
  | n + 1, _, _, .cons r t => .cons r (pr_erase n t)
theorem pr_set {R : V → α → Prop} {v : V} {x : α} (r0 : R v x) : ∀ (n : Nat) {vs : List V} {xs : List α}, Paired R vs xs → Paired R (vs.set n v) (xs.set n x)
  | _, _, _, .nil => .nil
  | 0, _, _, .cons r t => .cons r0 t
  | n + 1, _, _, .cons r t => .cons r (pr_set r0 n t)
theorem pr_dropLast {R : V → α → Prop} {vs : List V} {xs : List α} (h : Paired R vs xs) : Paired R vs.dropLast xs.dropLast := by
  rw [List.dropLast_eq_take, List.dropLast_eq_take, h.length]; exact pr_take _ h
theorem pr_rev {R : V → α → Prop} : ∀ {vs : List V} {xs : List α}, Paired R vs xs → Paired R vs.reverse xs.reverse
  | _, _, .nil => .nil
  | _, _, .cons r t => by rw [List.reverse_cons, List.reverse_cons]; exact pr_app (pr_rev t) (.cons r .nil)
theorem c_pop {j : Nat} {x : α} {xs ys : List α} {Q : VK} (w : Wo G0 H0 ls G H cs) (hc : cs[j]? = some (l, cL R xs)) (hm : popM xs = some (x, ys)) (k : ∀ v H2, Wo G0 H0 ls G H2 (cs.set j (l, cL R ys)) → R.r G v x → Q v H2) : rPop (.ref l) [] H Q := by
  obtain ⟨_, o3, k2, vs, rfl, k3⟩ := w.w.getAt hc
  obtain ⟨x', hx, e⟩ := bindS hm
  cases e
  obtain ⟨v, hv, r⟩ := pr_get k3 hx
  exact ⟨l, vs, v, rfl, rfl, k2, by rw [k3.length]; exact hv, k v _ (w.writeAt hc ⟨vs.dropLast, rfl, pr_dropLast k3⟩) r⟩
theorem c_popAt {j : Nat} {i : Int} {x : α} {xs ys : List α} {Q : VK} (w : Wo G0 H0 ls G H cs) (hc : cs[j]? = some (l, cL R xs)) (hm : popAtM xs i = some (x, ys)) (k : ∀ v H2, Wo G0 H0 ls G H2 (cs.set j (l, cL R ys)) → R.r G v x → Q v H2) : rPopAt (.ref l) [.int i] H Q := by
  obtain ⟨_, o3, k2, vs, rfl, k3⟩ := w.w.getAt hc
  unfold popAtM at hm
  split at hm
  · rename_i hb
    obtain ⟨n, hn, hm⟩ := bindS hm
    obtain ⟨x', hx, e⟩ := bindS hm
    cases e
    obtain ⟨v, hv, r⟩ := pr_get k3 hx
    exact ⟨l, vs, i, n, v, rfl, rfl, k2, hb.1, hb.2, by rw [k3.length]; exact hn, hv, k v _ (w.writeAt hc ⟨vs.eraseIdx n, rfl, pr_erase n k3⟩) r⟩
  · cases hm
abbrev rIns : V → List V → Hp → VK → Prop := fun x vs H Q => ∃ (l : Addr) (xs : List V) (i : Int) (y : V), x = .ref l ∧ vs = [.int i, y] ∧ H l = some (.lst xs) ∧ xs.length < sizeLine ∧ 0 ≤ i ∧ i < 2 ^ 63 ∧ Q .non (upd H l (.lst (xs.take i.toNat ++ [y] ++ xs.drop i.toNat)))
def rInsN : V → List V → Hp → VK → Prop := rIns
theorem c_ins {j : Nat} {i : Int} {x : α} {v : V} {xs ys : List α} {Q : VK} (w : Wo G0 H0 ls G H cs) (hc : cs[j]? = some (l, cL R xs)) (r : R.r G v x) (hm : insM xs i x = some ys) (k : ∀ H2, Wo G0 H0 ls G H2 (cs.set j (l, cL R ys)) → Q .non H2) : rInsN (.ref l) [.int i, v] H Q := by
  obtain ⟨_, o3, k2, vs, rfl, k3⟩ := w.w.getAt hc
  unfold insM at hm
  split at hm
  · rename_i hb
    cases hm
    exact ⟨l, vs, i, v, rfl, rfl, k2, by rw [k3.length]; exact sz_l hb.1, hb.2.1, hb.2.2, k _ (w.writeAt hc ⟨_, rfl, pr_app (pr_app (pr_take _ k3) (.cons r .nil)) (pr_drop _ k3)⟩)⟩
  · cases hm
theorem c_rev {j : Nat} {xs : List α} {Q : VK} (w : Wo G0 H0 ls G H cs) (hc : cs[j]? = some (l, cL R xs)) (k : ∀ H2, Wo G0 H0 ls G H2 (cs.set j (l, cL R xs.reverse)) → Q .non H2) : rReverse (.ref l) [] H Q := by
  obtain ⟨_, o3, k2, vs, rfl, k3⟩ := w.w.getAt hc
  exact ⟨l, vs, rfl, rfl, k2, k _ (w.writeAt hc ⟨_, rfl, pr_rev k3⟩)⟩
theorem c_clear {j : Nat} {xs : List α} {Q : VK} (w : Wo G0 H0 ls G H cs) (hc : cs[j]? = some (l, cL R xs)) (k : ∀ H2, Wo G0 H0 ls G H2 (cs.set j (l, cL R [])) → Q .non H2) : rClear (.ref l) [] H Q := by
  obtain ⟨_, o3, k2, vs, rfl, k3⟩ := w.w.getAt hc
  exact ⟨l, vs, rfl, rfl, k2, k _ (w.writeAt hc ⟨_, rfl, .nil⟩)⟩
theorem mt_insN {X : Cx} : MtR X "list.insert" rInsN := mt_insert
/-- xs[i] = e -/
def setM (xs : List α) (i : Int) (x : α) : Option (List α) := ixN xs.length i >>= fun j => some (xs.set j x)
theorem x_setIx {a j : Nat} {te ti : TE} {m : Option α} {mi : Option Int} {x : α} {i : Int} {xs ys : List α} (w : Wo G0 H0 ls G H cs) (hc : cs[j]? = some (l, cL R xs)) (hi : σ[a]? = some (some (.ref l))) (h : E te σ G H R m) (hm : m = some x)
    (h' : E ti σ G H rI mi) (hm' : mi = some i) (hy : setM xs i x = some ys) (k : ∀ H2 G2, Wo G0 H0 ls G2 H2 (cs.set j (l, cL R ys)) → Ex G G2 → tz D σ H2) : tSeq (tAsg te (gSub (tVar a) ti rSetL)) tz D σ H :=
  h x hm H w.ex (Ex.refl _) (fun x H1 => gSub (tVar a) ti rSetL x σ H1 (tz D)) fun v H3 G3 u r => by
    have w3 := w.up u
    refine ⟨.ref l, hi, (h'.mono u.gg u.hh) i hm' H3 w3.ex (Ex.refl _) _ fun v' H4 G4 u' r' => ?_⟩
    cases r'
    have w4 := w3.up u'
    obtain ⟨_, o3, k2, vs, rfl, k3⟩ := w4.w.getAt hc
    obtain ⟨n, hn, e⟩ := bindS hy
    cases e
    exact ⟨l, vs, i, n, rfl, rfl, k2, by rw [k3.length]; exact hn, k _ _ (w4.writeAt hc ⟨_, rfl, pr_set (R.mono u'.gg r) n k3⟩) (u.gg.trans u'.gg)⟩

/-! ### loops -/
theorem x_forL {xs : List α} {tl : TE} {m : Option (List α)} (w : Wo G0 H0 ls G H cs) (h : E tl σ G H (rL R) m) (hm : m = some xs) (P : Nat → Hp → Hp → L2.St → Prop) (hP : ∀ i G' H' σ', P i G' H' σ' → Ex G' H')
    (h0 : ∀ G' H', Wo G0 H0 ls G' H' cs → Ex G G' → P 0 G' H' σ)
    (hs : ∀ G1, Ex G G1 → ∀ i x v σ' G' H', xs[i]? = some x → Ex G1 G' → P i G' H' σ' → R.r G' v x → g v σ' H' fun σ2 H2 => tu { D with nx := fun σ' H' => ∃ G', Ex G1 G' ∧ P (i + 1) G' H' σ', ct := fun σ' H' => ∃ G', Ex G1 G' ∧ P (i + 1) G' H' σ', bk := tz D } σ2 H2)
    (hd : ∀ σ' G' H', Ex G G' → P xs.length G' H' σ' → tz D σ' H') : tSeq (tFor (iList K tl) g tu) tz D σ H :=
  h xs hm H w.ex (Ex.refl _) _ fun v H1 G1 u r => by
    obtain ⟨a, vs, rfl, h2, h3⟩ := r
    refine ⟨a, rfl, ⟨vs, Or.inl (Or.inl (u.gh a _ h2))⟩, for_list (K := K) (a := a) (xs := vs) (fun i σ' H' => ∃ G', Ex G1 G' ∧ P i G' H' σ') ⟨G1, Ex.refl _, h0 G1 H1 (w.up u) u.gg⟩ ?_ ?_ ?_⟩
    · rintro i σ' H' _ ⟨G', e, p⟩
      exact Or.inl (Or.inl (hP _ _ _ _ p a _ (e a _ h2)))
    · rintro i y σ' H' hy ⟨G', e, p⟩
      obtain ⟨x, hx, r⟩ := pr_get' h3 hy
      exact hs G1 u.gg i x y σ' G' H' hx e p (R.mono e r)
    · rintro σ' H' ⟨G', e, p⟩
      rw [h3.length] at p
      exact hd σ' G' H' (u.gg.trans e) p
theorem x_forR {ta : TA} {n : Int} {m : Option (Int × Unit)} {xs : List Int} (w : Wo G0 H0 ls G H cs) (h : EA ta σ G H (aC rI aN) m) (hm : m = some (n, ())) (hx : rngM 0 n = some xs) (P : Nat → Hp → Hp → L2.St → Prop)
    (h0 : ∀ G' H', Wo G0 H0 ls G' H' cs → Ex G G' → P 0 G' H' σ)
    (hs : ∀ i x σ' G' H', xs[i]? = some x → P i G' H' σ' → g (.int x) σ' H' fun σ2 H2 => tu { D with nx := fun σ' H' => ∃ G', P (i + 1) G' H' σ', ct := fun σ' H' => ∃ G', P (i + 1) G' H' σ', bk := tz D } σ2 H2)
    (hd : ∀ σ' G' H', P xs.length G' H' σ' → tz D σ' H') : tSeq (tFor (iRng1 ta) g tu) tz D σ H :=
  h _ hm H w.ex (Ex.refl _) _ fun v H1 G1 u r => by
    obtain ⟨v1, ws, rfl, e1, rfl⟩ := r
    cases e1
    unfold rngM at hx
    split at hx
    · rename_i hb
      cases hx
      refine ⟨n, rfl, by omega, by omega, for_range (lo := 0) (n := n.toNat) (fun i σ' H' => ∃ G', P i G' H' σ') ⟨G1, h0 G1 H1 (w.up u) u.gg⟩ ?_ ?_⟩
      · rintro i σ' H' hi ⟨G', p⟩
        exact hs i _ σ' G' H' (rng_get (by omega)) p
      · rintro σ' H' ⟨G', p⟩
        refine hd σ' G' H' ?_
        rw [rng_len]
        have : (n - 0).toNat = n.toNat := by omega
        rw [this]; exact p
    · cases hx
theorem x_forR2 {ta : TA} {lo n : Int} {m : Option (Int × Int × Unit)} {xs : List Int} (w : Wo G0 H0 ls G H cs) (h : EA ta σ G H (aC rI (aC rI aN)) m) (hm : m = some (lo, n, ())) (hx : rngM lo n = some xs) (P : Nat → Hp → Hp → L2.St → Prop)
    (h0 : ∀ G' H', Wo G0 H0 ls G' H' cs → Ex G G' → P 0 G' H' σ)
    (hs : ∀ i x σ' G' H', xs[i]? = some x → P i G' H' σ' → g (.int x) σ' H' fun σ2 H2 => tu { D with nx := fun σ' H' => ∃ G', P (i + 1) G' H' σ', ct := fun σ' H' => ∃ G', P (i + 1) G' H' σ', bk := tz D } σ2 H2)
    (hd : ∀ σ' G' H', P xs.length G' H' σ' → tz D σ' H') : tSeq (tFor (iRng2 ta) g tu) tz D σ H :=
  h _ hm H w.ex (Ex.refl _) _ fun v H1 G1 u r => by
    obtain ⟨v1, ws, rfl, e1, v2, ws2, rfl, e2, rfl⟩ := r
    cases e1
    cases e2
    unfold rngM at hx
    split at hx
    · rename_i hb
      cases hx
      refine ⟨lo, n, rfl, ⟨by omega, by omega, by omega, by omega⟩, for_range (lo := lo) (n := (n - lo).toNat) (fun i σ' H' => ∃ G', P i G' H' σ') ⟨G1, h0 G1 H1 (w.up u) u.gg⟩ ?_ ?_⟩
      · rintro i σ' H' hi ⟨G', p⟩
        exact hs i _ σ' G' H' (rng_get hi) p
      · rintro σ' H' ⟨G', p⟩
        refine hd σ' G' H' ?_
        rw [rng_len]
        exact p
    · cases hx
theorem g_name {j : Nat} {v : V} {Q : L2.St → Hp → Prop} (h : Q (σ.set j (some v)) H) : gName j v σ H Q := h
theorem g_pair {i j : Nat} {v : V} {p : α × β} {Q : L2.St → Hp → Prop} (r : (rP R S).r G v p) (e : Ex G H) (k : ∀ x y, R.r G x p.1 → S.r G y p.2 → Q ((σ.set i (some x)).set j (some y)) H) : gTup K 2 (gCons (gName i) (gCons (gName j) gNil)) v σ H Q := by
  obtain ⟨a, x, y, rfl, h2, h3, h4⟩ := r
  exact ⟨a, [x, y], rfl, Or.inl (Or.inl (e a _ h2)), rfl, x, [y], rfl, y, [], rfl, rfl, k x y h3 h4⟩
/-- while -/
theorem x_wh {ρ ς : Type} {c : ς → Option Bool} {body : ς → Option (Stp ς ρ)} {n : Nat} {s : ς} {r : ς ⊕ ρ} (hm : whL c body n s = some r) (P : ς → L2.St → Hp → Prop) (h0 : P s σ H)
    (ht : ∀ n s σ' H', P s σ' H' → whL c body n s = some r → ∃ b, c s = some b ∧ ∀ Q : Bool → Hp → Prop, (∀ H2, P s σ' H2 → Q b H2) → t σ' H' Q)
    (hs : ∀ n s σ' H', P s σ' H' → (body s >>= stpK (whL c body n)) = some r → tu { D with nx := fun σ2 H2 => ∃ s2, P s2 σ2 H2 ∧ whL c body n s2 = some r, ct := fun σ2 H2 => ∃ s2, P s2 σ2 H2 ∧ whL c body n s2 = some r, bk := tz D } σ' H')
    (hd : ∀ s σ' H', P s σ' H' → r = .inl s → tz D σ' H') : tSeq (tWhile t tu) tz D σ H := by
  refine ⟨fun n σ' H' => ∃ s, P s σ' H' ∧ whL c body n s = some r, ⟨n, s, h0, hm⟩, ?_⟩
  rintro n σ' H' ⟨s, p, hm⟩
  obtain ⟨b, hb, kb⟩ := ht n s σ' H' p hm
  refine kb _ fun H2 p2 => ?_
  cases n with
  | zero => cases hm
  | succ n =>
    have hm' : (c s >>= fun b => bif b then body s >>= stpK (whL c body n) else some (.inl s)) = some r := hm
    rw [hb] at hm'
    cases b with
    | true => exact ⟨_, fun σ2 H2 ⟨s2, q⟩ => ⟨n, Nat.lt_succ_self n, s2, q⟩, hs n s σ' H2 p2 hm'⟩
    | false => exact hd s σ' H2 p2 (Option.some.inj hm').symm
end
end Sim

namespace Sim
open PySem L2 Evl
section
variable {α β : Type}
/-- [f2 x for x in xs if f x] -/
def lcM (f : α → Option Bool) (f2 : α → Option β) : List α → Option (List β)
  | [] => some []
  | x :: xs => f x >>= fun b => bif b then f2 x >>= fun y => lcM f f2 xs >>= fun ys => some (y :: ys) else lcM f f2 xs
/-- [f2 x for x in xs] -/
def mapO (f2 : α → Option β) : List α → Option (List β)
  | [] => some []
  | x :: xs => f2 x >>= fun y => mapO f2 xs >>= fun ys => some (y :: ys)
def lcS (f : α → Option Bool) (f2 : α → Option β) (xs : List α) : Option (List β) := bif sz xs.length then lcM f f2 xs else none
def mapS (f2 : α → Option β) (xs : List α) : Option (List β) := bif sz xs.length then mapO f2 xs else none
theorem lcM_true (f2 : α → Option β) : ∀ xs, lcM (fun _ => some true) f2 xs = mapO f2 xs
  | [] => rfl
  | x :: xs => by
    show (f2 x >>= fun y => lcM (fun _ => some true) f2 xs >>= fun ys => some (y :: ys)) = _
    rw [lcM_true f2 xs]; rfl
theorem mapS_eq (f2 : α → Option β) : mapS f2 = lcS (fun _ => some true) f2 := by
  funext xs
  unfold mapS lcS
  rw [lcM_true]
theorem lcS_ok {f : α → Option Bool} {f2 : α → Option β} {xs : List α} {ys : List β} (h : lcS f f2 xs = some ys) : sz xs.length = true ∧ lcM f f2 xs = some ys := by
  unfold lcS at h
  cases e : sz xs.length with
  | true => rw [e] at h; exact ⟨rfl, h⟩
  | false => rw [e] at h; cases h
end
section
variable {K : PySem.W.Frag} {σ : L2.St} {G H W : Hp} {te tl : TE} {tt : TT} {α β γ : Type} {R : Rep α} {S : Rep β} {T : Rep γ}
/-- a turn's word: the list so far, what is left -/
def Lw (G0 H0 : Hp) (T : Rep γ) (f : α → Option Bool) (f2 : α → Option γ) (xs : List α) (zs : List γ) (D : Addr) (i : Nat) (H : Hp) : Prop :=
  ∃ G acc ys rest, H0 D = none ∧ Up G0 H0 G H ∧ G D = none ∧ H D = some (.lst acc) ∧ Paired (T.r G) acc ys ∧ lcM f f2 (xs.drop i) = some rest ∧ ys ++ rest = zs ∧ ys.length ≤ i
theorem lw_turn {G0 H0 H : Hp} {f : α → Option Bool} {f2 : α → Option γ} {xs : List α} {zs : List γ} {D : Addr} {i : Nat} {x : α} {σ2 : L2.St} (hx : xs[i]? = some x) (hs : sz xs.length = true) (p : Lw G0 H0 T f f2 xs zs D i H)
    (ht : ∀ G', Ex G0 G' → Ex H0 H → Ex G' H → ET tt σ2 H (f x)) (he : ∀ G' H', Ex G0 G' → Ex H0 H' → Ex H H' → Ex G' H' → E te σ2 G' H' T (f2 x)) :
    tt σ2 H fun b H3 => if b = true then te σ2 H3 fun y H4 => ∃ acc, H4 D = some (.lst acc) ∧ acc.length < sizeLine ∧ Lw G0 H0 T f f2 xs zs D (i + 1) (upd H4 D (.lst (acc ++ [y]))) else Lw G0 H0 T f f2 xs zs D (i + 1) H3 := by
  obtain ⟨G, acc, ys, rest, p1, p2, p3, p4, p5, p6, p7, p8⟩ := p
  rw [drop_at hx] at p6
  obtain ⟨b, hb, p6⟩ := bindS p6
  have hi : i < xs.length := (List.getElem?_eq_some_iff.mp hx).1
  refine ht G p2.gg p2.hh p2.gh b hb H (Ex.refl _) _ fun H3 e3 => ?_
  cases b with
  | false => exact ⟨G, acc, ys, rest, p1, p2.trans (Up.same p2.gh e3), p3, e3 _ _ p4, p5, p6, p7, Nat.le_succ_of_le p8⟩
  | true =>
    obtain ⟨y, hy, p6⟩ := bindS p6
    obtain ⟨r2, hr, p6⟩ := bindS p6
    cases p6
    show te σ2 H3 _
    refine he G H3 p2.gg (p2.hh.trans e3) e3 (p2.gh.trans e3) y hy H3 (p2.gh.trans e3) (Ex.refl _) _ fun v H4 G4 u r => ?_
    have q2 : Up G0 H0 G4 H4 := (p2.trans (Up.same p2.gh e3)).trans u
    have q3 : G4 D = none := u.nw D (by rw [e3 _ _ p4]; simp) p3
    have q4 := u.hh _ _ (e3 _ _ p4)
    refine ⟨acc, q4, by rw [p5.length]; exact sz_lt (by have := of_decide_eq_true hs; omega), G4, acc ++ [v], ys ++ [y], r2, p1, ⟨q2.gg, fun a o h => ?_, Ex.mut q2.hh p1, q2.nw⟩, q3, upd_same, pr_app (Paired.mapP p5 fun _ _ => T.mono u.gg) (.cons r .nil), hr, by rw [List.append_assoc]; exact p7, by rw [List.length_append]; exact Nat.succ_le_succ p8⟩
    rw [upd_ne (fun z => by subst z; rw [q3] at h; cases h)]
    exact q2.gh a o h
theorem lw_end {G0 H0 H : Hp} {f : α → Option Bool} {f2 : α → Option γ} {xs : List α} {zs : List γ} {D : Addr} (p : Lw G0 H0 T f f2 xs zs D xs.length H) : ∃ G, H0 D = none ∧ Up G0 H0 G H ∧ Wd G H [(D, cL T zs)] := by
  obtain ⟨G, acc, ys, rest, p1, p2, p3, p4, p5, p6, p7, p8⟩ := p
  rw [List.drop_length] at p6
  cases p6
  rw [List.append_nil] at p7
  subst p7
  exact ⟨G, p1, p2, p2.gh, fun c hc => by
    rw [List.mem_singleton.mp hc]; exact ⟨p3, _, p4, acc, rfl, p5⟩, List.nodup_cons.mpr ⟨List.not_mem_nil, List.nodup_nil⟩⟩
theorem lw_start {G0 H0 : Hp} {f : α → Option Bool} {f2 : α → Option γ} {xs : List α} {zs : List γ} {D : Addr} (e : Ex G0 H0) (hD : H0 D = none) (h : lcM f f2 xs = some zs) : Lw G0 H0 T f f2 xs zs D 0 (upd H0 D (.lst [])) :=
  ⟨G0, [], [], zs, hD, up_new e hD, fresh_back e hD, upd_same, .nil, h, rfl, Nat.le_refl _⟩
theorem el_lcL {vs : List Nat} {j : Nat} {m : Option (List α)} {f : α → Option Bool} {f2 : α → Option γ} (h : E tl σ G W (rL R) m) (hw : ∀ x, wipe ((wipe σ vs).set j (some x)) vs = wipe σ vs)
    (ht : ∀ x v G' W', Ex G G' → Ex W W' → Ex G' W' → R.r G' v x → ET tt ((wipe σ vs).set j (some v)) W' (f x))
    (he : ∀ x v G' W', Ex G G' → Ex W W' → Ex G' W' → R.r G' v x → E te ((wipe σ vs).set j (some v)) G' W' T (f2 x)) :
    EL (tLc (iList K tl) (gName j) tt te vs) σ G W T (m >>= fun xs => lcS f f2 xs) := fun zs hz H e e' Q q => by
  obtain ⟨xs, hx, hz⟩ := bindS hz
  obtain ⟨hs, hz⟩ := lcS_ok hz
  refine h xs hx H e e' _ fun v H1 G1 u r => ?_
  obtain ⟨a, us, rfl, h2, h3⟩ := r
  refine ⟨a, rfl, ⟨us, Or.inl (Or.inl (u.gh a _ h2))⟩, fun D hD => lc_list (xs := us) (Lw G1 H1 T f f2 xs zs D) (lw_start u.gh hD hz) (fun i H' _ p => ?_) (fun i y H' hy p => ?_) fun H' p => ?_⟩
  · obtain ⟨G', _, _, _, _, p2, _⟩ := p
    exact Or.inl (Or.inl (p2.gh a _ (p2.gg a _ h2)))
  · obtain ⟨x, hx', r⟩ := pr_get' h3 hy
    exact ⟨hw y, lw_turn hx' hs p (fun G' e1 e2 e3 => ht x y G' H' (u.gg.trans e1) ((e'.trans u.hh).trans e2) e3 (R.mono e1 r)) fun G' H2 e1 e2 _ e3 => he x y G' H2 (u.gg.trans e1) ((e'.trans u.hh).trans e2) e3 (R.mono e1 r)⟩
  · rw [h3.length] at p
    obtain ⟨G', k1, k2, k3⟩ := lw_end p
    exact q D H' G' (fresh_back u.hh k1) (u.trans k2) k3
theorem el_lcR {ta : TA} {vs : List Nat} {j : Nat} {m : Option (Int × Unit)} {f : Int → Option Bool} {f2 : Int → Option γ} (h : EA ta σ G W (aC rI aN) m) (hw : ∀ x, wipe ((wipe σ vs).set j (some x)) vs = wipe σ vs)
    (ht : ∀ x G' W', Ex G G' → Ex W W' → Ex G' W' → ET tt ((wipe σ vs).set j (some (.int x))) W' (f x))
    (he : ∀ x G' W', Ex G G' → Ex W W' → Ex G' W' → E te ((wipe σ vs).set j (some (.int x))) G' W' T (f2 x)) :
    EL (tLc (iRng1 ta) (gName j) tt te vs) σ G W T (m >>= fun n => rngM 0 n.1 >>= fun xs => lcS f f2 xs) := fun zs hz H e e' Q q => by
  obtain ⟨n, hn, hz⟩ := bindS hz
  obtain ⟨xs, hx, hz⟩ := bindS hz
  obtain ⟨hs, hz⟩ := lcS_ok hz
  refine h n hn H e e' _ fun v H1 G1 u r => ?_
  obtain ⟨v1, ws, rfl, e1, rfl⟩ := r
  cases e1
  unfold rngM at hx
  split at hx
  · rename_i hb
    cases hx
    have hl : (rng 0 n.1).length = n.1.toNat := by rw [rng_len]; omega
    refine ⟨n.1, rfl, by omega, by omega, fun D hD => lc_range (lo := 0) (n := n.1.toNat) (Lw G1 H1 T f f2 (rng 0 n.1) zs D) (lw_start u.gh hD hz) (fun i H' hi p => ?_) fun H' p => ?_⟩
    · have hx' : (rng 0 n.1)[i]? = some (0 + (i : Int)) := rng_get (by omega)
      exact ⟨hw _, lw_turn hx' hs p (fun G' e1 e2 e3 => ht _ G' H' (u.gg.trans e1) ((e'.trans u.hh).trans e2) e3) fun G' H2 e1 e2 _ e3 => he _ G' H2 (u.gg.trans e1) ((e'.trans u.hh).trans e2) e3⟩
    · rw [← hl] at p
      obtain ⟨G', k1, k2, k3⟩ := lw_end p
      exact q D H' G' (fresh_back u.hh k1) (u.trans k2) k3
  · cases hx
/-- the target a pair of names -/
theorem el_lcP {vs : List Nat} {i j : Nat} {m : Option (List (α × β))} {f : α × β → Option Bool} {f2 : α × β → Option γ} (h : E tl σ G W (rL (rP R S)) m) (hw : ∀ x y, wipe (((wipe σ vs).set i (some x)).set j (some y)) vs = wipe σ vs)
    (ht : ∀ p v w G' W', Ex G G' → Ex W W' → Ex G' W' → R.r G' v p.1 → S.r G' w p.2 → ET tt (((wipe σ vs).set i (some v)).set j (some w)) W' (f p))
    (he : ∀ p v w G' W', Ex G G' → Ex W W' → Ex G' W' → R.r G' v p.1 → S.r G' w p.2 → E te (((wipe σ vs).set i (some v)).set j (some w)) G' W' T (f2 p)) :
    EL (tLc (iList K tl) (gTup K 2 (gCons (gName i) (gCons (gName j) gNil))) tt te vs) σ G W T (m >>= fun xs => lcS f f2 xs) := fun zs hz H e e' Q q => by
  obtain ⟨xs, hx, hz⟩ := bindS hz
  obtain ⟨hs, hz⟩ := lcS_ok hz
  refine h xs hx H e e' _ fun v H1 G1 u r => ?_
  obtain ⟨a, us, rfl, h2, h3⟩ := r
  refine ⟨a, rfl, ⟨us, Or.inl (Or.inl (u.gh a _ h2))⟩, fun D hD => lc_list (xs := us) (Lw G1 H1 T f f2 xs zs D) (lw_start u.gh hD hz) (fun i H' _ p => ?_) (fun k y H' hy p => ?_) fun H' p => ?_⟩
  · obtain ⟨G', _, _, _, _, p2, _⟩ := p
    exact Or.inl (Or.inl (p2.gh a _ (p2.gg a _ h2)))
  · obtain ⟨x, hx', b, v, w, rfl, k2, k3, k4⟩ := pr_get' h3 hy
    have k5 : H' b = some (.tup [v, w]) := by
      obtain ⟨G', _, _, _, _, p2, _⟩ := p
      exact p2.gh b _ (p2.gg b _ k2)
    refine ⟨b, [v, w], rfl, Or.inl (Or.inl k5), rfl, v, [w], rfl, w, [], rfl, rfl, hw v w, ?_⟩
    exact lw_turn hx' hs p (fun G' e1 e2 e3 => ht x v w G' H' (u.gg.trans e1) ((e'.trans u.hh).trans e2) e3 (R.mono e1 k3) (S.mono e1 k4)) fun G' H2 e1 e2 _ e3 => he x v w G' H2 (u.gg.trans e1) ((e'.trans u.hh).trans e2) e3 (R.mono e1 k3) (S.mono e1 k4)
  · rw [h3.length] at p
    obtain ⟨G', k1, k2, k3⟩ := lw_end p
    exact q D H' G' (fresh_back u.hh k1) (u.trans k2) k3
theorem et_yes : ET tYes σ W (some true) := fun b hb H _ Q q => by
  cases hb
  exact q H (Ex.refl _)
/-- no test: mapS -/
theorem el_map {m : Option (List α)} {f2 : α → Option γ} {te : TE} (h : EL te σ G W T (m >>= fun xs => lcS (fun _ => some true) f2 xs)) : EL te σ G W T (m >>= fun xs => mapS f2 xs) := by rw [mapS_eq]; exact h
theorem el_mapR {m : Option (Int × Unit)} {f2 : Int → Option γ} {te : TE} (h : EL te σ G W T (m >>= fun n => rngM 0 n.1 >>= fun xs => lcS (fun _ => some true) f2 xs)) : EL te σ G W T (m >>= fun n => rngM 0 n.1 >>= fun xs => mapS f2 xs) := by rw [mapS_eq]; exact h
end
end Sim

namespace Sim
open PySem L2 Evl
section
variable {K : PySem.W.Frag} {σ : L2.St} {G0 H0 G H G2 H2 W : Hp} {ls : List Addr} {cs : Cs} {l : Addr} {cp cp' : CP} {ta tb te tc : TE} {t u : TT} {α β γ ι κ : Type} {R : Rep α} {S : Rep β} {T : Rep γ} {A : AR ι} {D : Ends} {tu tv tz : TS} {g : TG}
theorem E.is {m : Option α} {x : α} (h : E te σ G W R m) (hm : m = some x) : E te σ G W R (some x) := by rw [← hm]; exact h
theorem ET.is {m : Option Bool} {x : Bool} (h : ET t σ W m) (hm : m = some x) : ET t σ W (some x) := by rw [← hm]; exact h
theorem EL.is {m : Option (List α)} {x : List α} (h : EL te σ G W R m) (hm : m = some x) : EL te σ G W R (some x) := by rw [← hm]; exact h
theorem e_andP {a b : Bool} (h1 : E ta σ G W rB (some a)) (h2 : E tb σ G W rB (some b)) : E (tAndV ta tb) σ G W rB (some (a && b)) := by
  have h := e_andV h1 h2
  cases a <;> exact h
theorem e_orP {a b : Bool} (h1 : E ta σ G W rB (some a)) (h2 : E tb σ G W rB (some b)) : E (tOrV ta tb) σ G W rB (some (a || b)) := by
  have h := e_orV h1 h2
  cases a <;> exact h
theorem et_andP {a b : Bool} (h1 : ET t σ W (some a)) (h2 : ET u σ W (some b)) : ET (tAnd t u) σ W (some (a && b)) := by
  have h := et_and h1 h2
  cases a <;> exact h
theorem et_orP {a b : Bool} (h1 : ET t σ W (some a)) (h2 : ET u σ W (some b)) : ET (tOr t u) σ W (some (a || b)) := by
  have h := et_or h1 h2
  cases a <;> exact h
/-- an option's value where it is one -/
theorem e_some {m : Option α} (h : E te σ G W R m) : E te σ G W (rO R) (m >>= fun x => some (some x)) := fun z hz H e e' Q q => by
  obtain ⟨x, hx, hz⟩ := bindS hz
  cases hz
  exact h x hx H e e' Q q
theorem e_none : E (tC .non) σ G W (rO R) (some none) := e_c rfl
theorem e_get {m : Option (Option α)} (h : E te σ G W (rO R) m) : E te σ G W R (m >>= fun x => x) := fun z hz H e e' Q q => by
  obtain ⟨x, hx, hz⟩ := bindS hz
  subst hz
  exact h _ hx H e e' Q q
/-- items of one kind -/
def EAL (n : Nat) (ta : TA) (σ : L2.St) (G W : Hp) (R : Rep α) (m : Option (List α)) : Prop :=
  ∀ xs, m = some xs → xs.length = n ∧ ∀ H, Ex G H → Ex W H → ∀ Q : List V → Hp → Prop, (∀ vs H2 G2, Up G H G2 H2 → Paired (R.r G2) vs xs → Q vs H2) → ta σ H Q
theorem EAL.mono {n : Nat} {G' W' : Hp} {ta : TA} {m : Option (List α)} (e : Ex G G') (e' : Ex W W') (h : EAL n ta σ G W R m) : EAL n ta σ G' W' R m := fun x hx => ⟨(h x hx).1, fun H e1 e2 Q q =>
  (h x hx).2 H (e.trans e1) (e'.trans e2) Q fun v H2 G2 up r => by
    obtain ⟨G3, u3, e3⟩ := up.lift e e1
    exact q v H2 G3 u3 (Paired.mapP r fun _ _ => R.mono e3)⟩
theorem eal_nil : EAL 0 tNil σ G W R (some []) := fun x hx => by
  cases hx
  exact ⟨rfl, fun H e e' Q q => q [] H G (Up.refl e) .nil⟩
theorem eal_cons {n : Nat} {tr : TA} {ma : Option α} {mr : Option (List α)} (h : E ta σ G W R ma) (hr : EAL n tr σ G W R mr) : EAL (n + 1) (tCons ta tr) σ G W R (ma >>= fun x => mr >>= fun xs => some (x :: xs)) := fun z hz => by
  obtain ⟨x, hx, hz⟩ := bindS hz
  obtain ⟨xs, hxs, hz⟩ := bindS hz
  cases hz
  refine ⟨congrArg (· + 1) (hr xs hxs).1, fun H e e' Q q => ?_⟩
  refine h x hx H e e' _ fun v H1 G1 u1 r1 => ?_
  refine ((hr.mono u1.gg (e'.trans u1.hh)) xs hxs).2 H1 u1.gh (Ex.refl _) _ fun vs H2 G2 u2 r2 => ?_
  exact q (v :: vs) H2 G2 (u1.trans u2) (.cons (R.mono u2.gg r1) r2)
theorem el_disp {n : Nat} {ta : TA} {m : Option (List α)} (h : EAL n ta σ G W R m) (hn : n < 100000 := by decide) : EL (tLst ta) σ G W R m := fun z hz H e e' Q q => by
  refine (h z hz).2 H e e' _ fun vs H1 G1 u1 r1 => ?_
  refine ⟨sz_of (by rw [r1.length, (h z hz).1]; exact Nat.le_of_lt hn), fun p hp => q p _ G1 (fresh_back u1.hh hp) (u1.trans (up_new u1.gh hp)) (wd_new u1.gh hp r1)⟩
theorem e_tupH {n : Nat} {ta : TA} {m : Option (List α)} (h : EAL n ta σ G W R m) (hn : n < 100000 := by decide) : E (tTup ta) σ G W (rT R) m := fun z hz H e e' Q q => by
  refine (h z hz).2 H e e' _ fun vs H1 G1 u1 r1 => ?_
  refine ⟨sz_of (by rw [r1.length, (h z hz).1]; exact Nat.le_of_lt hn), fun p hp => q _ _ _ (u1.trans (Up.lay u1.gh hp)) ⟨p, vs, rfl, upd_same, Paired.mapP r1 fun _ _ => R.mono (Ex.new (fresh_back u1.gh hp))⟩⟩
/-! ### cuts, tests opened -/
theorem o_cut (M : L2.St → Hp → Prop) (h : tSeq tu (fun _ => M) D σ H) (k : ∀ σ' H', M σ' H' → tz D σ' H') : Evl.tCut tu tz D σ H := ⟨M, h, k⟩
theorem o_if (h : t σ H fun b H1 => if b = true then tu { D with nx := tz D } σ H1 else tv { D with nx := tz D } σ H1) : tSeq (tIfS t tu tv) tz D σ H := h
theorem ite_b {b : Bool} {A B : Prop} (h1 : b = true → A) (h2 : b = false → B) : if b = true then A else B := by
  cases b with
  | true => exact h1 rfl
  | false => exact h2 rfl
theorem c_pf {f : ι → Option γ} {vs : List V} {i : ι} {z : γ} {Q : VK} {X : XK} (w : Wo G0 H0 ls G H cs) (hv : A.r G vs i) (hz : f i = some z)
    (k : ∀ u H2 G2, Wo G0 H0 ls G2 H2 cs → Ex G G2 → T.r G2 u z → Q u H2) : PF A T f vs H Q X := ⟨G, i, z, w.ex, hv, hz, fun u H2 G2 up r => k u H2 G2 (w.up up) up.gg r⟩
theorem c_pl {f : ι → Option (List γ)} {vs : List V} {i : ι} {z : List γ} {Q : VK} {X : XK} (w : Wo G0 H0 ls G H cs) (hv : A.r G vs i) (hz : f i = some z)
    (k : ∀ p H2 G2, H0 p = none → Wo G0 H0 ls G2 H2 ((p, cL T z) :: cs) → Ex G G2 → Q (.ref p) H2) : PL A T f vs H Q X := ⟨G, i, z, w.ex, hv, hz, fun p H2 G2 hp up w2 => k p H2 G2 (by
    cases q : H0 p with
    | none => rfl
    | some o => exact absurd hp (w.f.st p (by rw [q]; simp))) (w.newL hp up w2) up.gg⟩
theorem o_forR {ta : TA} (h : ta σ H fun vs H1 => ∃ j : Int, vs = [.int j] ∧ -(2 ^ 62) ≤ j ∧ j < 2 ^ 62 ∧ (fun (J : It) (H1 : Hp) => ∃ W : Nat → Nat → L2.St → Hp → Prop, (∃ m, W 0 m σ H1) ∧ ∀ i m σ H, W i m σ H →
      (J.stop i H ∧ tz D σ H) ∨ (J.go i H ∧ ∃ N : L2.St → Hp → Prop, (∀ σ' H', N σ' H' → ∃ m', m' < m ∧ W (i + 1) m' σ' H') ∧ ∀ x H', J.yld i H x H' → g x σ H' fun σ2 H2 => tu { D with nx := N, ct := N, bk := tz D } σ2 H2)) (Itr 0 j.toNat) H1) : tSeq (tFor (iRng1 ta) g tu) tz D σ H := h
/-- for i in range(n), n reckoned -/
theorem v_forR {n : Int} {xs : List Int} (w : Wo G0 H0 ls G H cs) (hx : rngM 0 n = some xs) (P : Nat → Hp → Hp → L2.St → Prop)
    (h0 : P 0 G H σ)
    (hs : ∀ i x σ' G' H', xs[i]? = some x → P i G' H' σ' → g (.int x) σ' H' fun σ2 H2 => tu { D with nx := fun σ' H' => ∃ G', P (i + 1) G' H' σ', ct := fun σ' H' => ∃ G', P (i + 1) G' H' σ', bk := tz D } σ2 H2)
    (hd : ∀ σ' G' H', P xs.length G' H' σ' → tz D σ' H') : ∃ j : Int, [V.int n] = [.int j] ∧ -(2 ^ 62) ≤ j ∧ j < 2 ^ 62 ∧ (fun (J : It) (H1 : Hp) => ∃ W : Nat → Nat → L2.St → Hp → Prop, (∃ m, W 0 m σ H1) ∧ ∀ i m σ H, W i m σ H →
      (J.stop i H ∧ tz D σ H) ∨ (J.go i H ∧ ∃ N : L2.St → Hp → Prop, (∀ σ' H', N σ' H' → ∃ m', m' < m ∧ W (i + 1) m' σ' H') ∧ ∀ x H', J.yld i H x H' → g x σ H' fun σ2 H2 => tu { D with nx := N, ct := N, bk := tz D } σ2 H2)) (Itr 0 j.toNat) H := by
  unfold rngM at hx
  split at hx
  · rename_i hb
    cases hx
    refine ⟨n, rfl, by omega, by omega, for_range (lo := 0) (n := n.toNat) (D := { D with nx := tz D }) (fun i σ' H' => ∃ G', P i G' H' σ') ⟨G, h0⟩ ?_ ?_⟩
    · rintro i σ' H' hi ⟨G', p⟩
      exact hs i _ σ' G' H' (rng_get (by omega)) p
    · rintro σ' H' ⟨G', p⟩
      refine hd σ' G' H' ?_
      rw [rng_len]
      have : (n - 0).toNat = n.toNat := by omega
      rw [this]; exact p
  · cases hx
end
end Sim

namespace Sim
open PySem L2 Evl
section
variable {K : PySem.W.Frag} {σ : L2.St} {G0 H0 G H G2 H2 W : Hp} {ls : List Addr} {cs : Cs} {l : Addr} {cp cp' : CP} {ta tb te tc : TE} {t u : TT} {α β γ ι κ : Type} {R : Rep α} {S : Rep β} {T : Rep γ} {A : AR ι} {D : Ends} {tu tv tz : TS} {g : TG}
theorem scO (h : R.Sc) : (rO R).Sc := fun {H H' v x} q => by
  cases x with
  | none => exact q
  | some y => exact h q
theorem cl_sc {xs : List α} (h : R.Sc) {o : HO} (q : (cL R xs).p G o) : (cL R xs).p G2 o := by
  obtain ⟨vs, e, p⟩ := q
  exact ⟨vs, e, Paired.mapP p fun _ _ r => h r⟩
theorem EL.s {m : Option (List α)} (sc : R.Sc) (h : EL te σ W W R m) : EL te σ G W R m := fun xs hx H e e' Q q => h xs hx H e' e' Q fun p H2 G2 hp u w => by
  obtain ⟨h1, o, h2, h3⟩ := w.head
  exact q p H2 G hp (Up.same e u.hh) ⟨e.trans u.hh, fun c hc => by
    rw [List.mem_singleton.mp hc]
    exact ⟨fresh_back e hp, o, h2, cl_sc sc h3⟩, List.nodup_cons.mpr ⟨List.not_mem_nil, List.nodup_nil⟩⟩
theorem e_neg {m : Option Int} (h : E te σ G W rI m) : E (tUn (L2.rU fun i => .int (-i)) te) σ G W rI (m >>= fun x => some (-x)) := fun z hz H e e' Q q => by
  obtain ⟨x, hx, hz⟩ := bindS hz
  cases hz
  exact h x hx H e e' _ fun v H1 G1 u r => ⟨x, r, q _ H1 G1 u rfl⟩
/-- the cells in another order -/
theorem Wo.perm (w : Wo G0 H0 ls G H cs) (p : List Nat) (hp : p.Nodup) (hl : ∀ i ∈ p, i < cs.length) : Wo G0 H0 ls G H (p.filterMap fun i => cs[i]?) := by
  have hm : ∀ c ∈ p.filterMap (fun i => cs[i]?), c ∈ cs := fun c hc => by
    obtain ⟨i, _, e⟩ := List.mem_filterMap.mp hc
    exact List.mem_of_getElem? e
  refine ⟨⟨w.ex, fun c hc => w.w.at_ c (hm c hc), ?_⟩, w.f, fun c hc => w.lo c (hm c hc)⟩
  clear hm
  induction p with
  | nil => exact List.nodup_nil
  | cons i p ih =>
    have hi : i < cs.length := hl i (List.mem_cons_self ..)
    rw [List.filterMap_cons, List.getElem?_eq_getElem hi]
    refine List.nodup_cons.mpr ⟨fun h => ?_, ih (List.nodup_cons.mp hp).2 fun j hj => hl j (List.mem_cons_of_mem _ hj)⟩
    obtain ⟨c, hc, e⟩ := List.mem_map.mp h
    obtain ⟨j, hj, ej⟩ := List.mem_filterMap.mp hc
    have h1 : (cs.map (·.1))[i]? = some cs[i].1 := by rw [List.getElem?_map, List.getElem?_eq_getElem hi]; rfl
    have h2 : (cs.map (·.1))[j]? = some cs[i].1 := by rw [List.getElem?_map, ej]; exact congrArg some e
    have := nodup_ix w.w.nd h1 h2
    subst this
    exact (List.nodup_cons.mp hp).1 hj
theorem Wo.sub2 {i j : Nat} {l' : Addr} (w : Wo G0 H0 ls G H cs) (h : cs[i]? = some (l, cp)) (h' : cs[j]? = some (l', cp')) (ne : i ≠ j) : Wd G H [(l, cp), (l', cp')] := ⟨w.ex, fun c hc => by
  rcases List.mem_cons.mp hc with hc | hc
  · subst hc; exact w.w.at_ _ (List.mem_of_getElem? h)
  · rw [List.mem_singleton.mp hc]; exact w.w.at_ _ (List.mem_of_getElem? h'), by
  refine List.nodup_cons.mpr ⟨fun z => ?_, List.nodup_cons.mpr ⟨List.not_mem_nil, List.nodup_nil⟩⟩
  have e : l = l' := List.mem_singleton.mp z
  have h1 : (cs.map (·.1))[i]? = some l := by rw [List.getElem?_map, h]; rfl
  have h2 : (cs.map (·.1))[j]? = some l := by rw [List.getElem?_map, h', e]; rfl
  exact ne (nodup_ix w.w.nd h1 h2)⟩
theorem x_forT {xs : List α} {tl : TE} {m : Option (List α)} (w : Wo G0 H0 ls G H cs) (h : E tl σ G H (rT R) m) (hm : m = some xs) (P : Nat → Hp → Hp → L2.St → Prop) (hP : ∀ i G' H' σ', P i G' H' σ' → Ex G' H')
    (h0 : ∀ G' H', Wo G0 H0 ls G' H' cs → Ex G G' → P 0 G' H' σ)
    (hs : ∀ G1, Ex G G1 → ∀ i x v σ' G' H', xs[i]? = some x → Ex G1 G' → P i G' H' σ' → R.r G' v x → g v σ' H' fun σ2 H2 => tu { D with nx := fun σ' H' => ∃ G', Ex G1 G' ∧ P (i + 1) G' H' σ', ct := fun σ' H' => ∃ G', Ex G1 G' ∧ P (i + 1) G' H' σ', bk := tz D } σ2 H2)
    (hd : ∀ σ' G' H', Ex G G' → P xs.length G' H' σ' → tz D σ' H') : tSeq (tFor (iTup K tl) g tu) tz D σ H :=
  h xs hm H w.ex (Ex.refl _) _ fun v H1 G1 u r => by
    obtain ⟨a, vs, rfl, h2, h3⟩ := r
    refine ⟨a, rfl, ⟨vs, Or.inl (Or.inl (u.gh a _ h2))⟩, for_tup (K := K) (a := a) (xs := vs) (fun i σ' H' => ∃ G', Ex G1 G' ∧ P i G' H' σ') ⟨G1, Ex.refl _, h0 G1 H1 (w.up u) u.gg⟩ ?_ ?_ ?_⟩
    · rintro i σ' H' _ ⟨G', e, p⟩
      exact Or.inl (Or.inl (hP _ _ _ _ p a _ (e a _ h2)))
    · rintro i y σ' H' hy ⟨G', e, p⟩
      obtain ⟨x, hx, r⟩ := pr_get' h3 hy
      exact hs G1 u.gg i x y σ' G' H' hx e p (R.mono e r)
    · rintro σ' H' ⟨G', e, p⟩
      rw [h3.length] at p
      exact hd σ' G' H' (u.gg.trans e) p
end
/-! ### the text's facts -/
structure Tx (fa : List He.Fa) (fn : List He.DefD) (K : PySem.W.Frag) (mg : Str → Option Value) : Prop where
  ex : ∃ h : Heap, K.In h ∧ h.Ns mainGlobals mg
  c : He.SaysD fa fn K
section
variable {fa : List He.Fa} {fn : List He.DefD} {K : PySem.W.Frag} {mg : Str → Option Value} {P : Program} {w : World} {base : Heap}
theorem Tx.glo (T : Tx fa fn K mg) (i : Nat) {x : Str} (h : fa[i]? = some (.glo x)) : mg x = some (.ref (He.ga K x)) := by
  obtain ⟨h', X, G⟩ := T.ex
  exact He.glo_ok X G (T.c.fact i h)
theorem Tx.free (T : Tx fa fn K mg) (i : Nat) {x : Str} (h : fa[i]? = some (.free x)) : mg x = none := by
  obtain ⟨h', X, G⟩ := T.ex
  exact He.free_ok X G (T.c.fact i h)
theorem Tx.cls (T : Tx fa fn K mg) (i : Nat) {x : Str} (h : fa[i]? = some (.cls x)) : Cls K (He.ga K x) := He.cls_ok (T.c.fact i h)
theorem Tx.noat (T : Tx fa fn K mg) (i : Nat) {x f : Str} (h : fa[i]? = some (.noat x f)) : NoAttr K (He.ga K x) f := He.noat_ok (T.c.fact i h)
theorem Tx.meth (T : Tx fa fn K mg) (i : Nat) {x m : Str} (h : fa[i]? = some (.meth x m)) : Meth K (He.ga K x) m (He.ma K (He.ga K x) m) := He.meth_ok (T.c.fact i h)
theorem Tx.mkr (T : Tx fa fn K mg) (i : Nat) {x : Str} (h : fa[i]? = some (.mkr x)) : Mk K (He.ga K x) (He.ma K (He.ga K x) "__init__") := He.mkr_ok (T.c.fact i h)
theorem Tx.def_ (T : Tx fa fn K mg) (i : Nat) {d : He.DefD} (h : fn[i]? = some d) : ∃ fd, FunD K d.name d.qual d.params d.body d.scope (d.dvs K) (d.kws K) (He.fAd K d.at_) fd := T.c.def_ i h
/-- a def by its name, with its promise -/
def Fk (P : Program) (w : World) (K : PySem.W.Frag) (mg : Str → Option Value) (base : Heap) (CX : CXT) (k : Nat) (x : Str) (ps : List Str) (sp : Sp) : Prop :=
  ∃ fd, FnOk P w K mg base CX k (He.ga K x) fd ps sp ∧ Binds K fd ps [] ∧ PySem.W.keepIn K (.ref (He.ga K x)) = true ∧ mg x = some (.ref (He.ga K x))
theorem fk_mk {CX : CXT} {k : Nat} {x qual : Str} {ps : List Str} {sp : Sp} {fd : FuncData} {params : Arguments} {body : List Stmt} {scope : Scope} (T : Tx fa fn K mg) (g : mg x = some (.ref (He.ga K x))) (F : FunD K x qual params body scope [] [] (He.ga K x) fd)
    (hb : ∀ (kV doc pm : Value) (an : Option Addr) (cdv ct : Value) (us : List Value), us.length = ps.length → bindArgs (PySem.W.fnOf x qual params body scope .none kV doc pm an cdv ct) ⟨us, []⟩ = pure (ps.zip us))
    (h : FnOk P w K mg base CX k (He.ga K x) fd ps sp) : Fk P w K mg base CX k x ps sp := ⟨fd, h, F.bindsN hb, F.kp, g⟩
end
end Sim

namespace Sim
open PySem L2 Evl
/-! ### the hook: facts, defs, and further Bools -/
abbrev AlE : Type := He.AlD × Bool
def obsE (fa : List He.Fa) (fn : List He.DefD) (ex : List (PySem.W.Frag → Bool)) (K : PySem.W.Frag) : AlE := (He.obsD fa fn K, ex.all fun e => e K)
def obsEG (n : Nat) (fa : List He.Fa) (fn : List He.DefD) (ex : List (PySem.W.Frag → Bool)) (g : Addr → Option Obj) : AlE := obsE fa fn ex (He.frG g (He.asD g n))
structure SaysE (fa : List He.Fa) (fn : List He.DefD) (ex : List (PySem.W.Frag → Bool)) (K : PySem.W.Frag) : Prop where
  d : He.SaysD fa fn K
  x : (ex.all fun e => e K) = true
def hookE (n : Nat) (fa : List He.Fa) (fn : List He.DefD) (ex : List (PySem.W.Frag → Bool)) : PySem.W.Hook where
  α := AlE
  obs := fun s => obsEG n fa fn ex s.heap.get?
  val := fun _ => (He.valD fn, true)
  says := fun _ h => ∃ K : PySem.W.Frag, K.In h ∧ SaysE fa fn ex K
  of := fun _ _ e => ⟨_, He.frG_in, congrArg (fun z : AlE => z.1) e, congrArg (fun z : AlE => z.2) e⟩
  keeps := fun _ _ _ ⟨K, hK, c⟩ k => ⟨K, PySem.W.Frag.In.keeps hK k, c⟩
theorem obsEG_eq {n : Nat} {fa : List He.Fa} {fn : List He.DefD} {ex : List (PySem.W.Frag → Bool)} {g : Addr → Option Obj} {s : Shared} (h : ∀ a, g a = s.heap.get? a) : obsEG n fa fn ex g = (hookE n fa fn ex).obs s := by
  have e : g = s.heap.get? := funext h
  rw [e] <;> rfl
structure TxE (fa : List He.Fa) (fn : List He.DefD) (es : List (PySem.W.Frag → Bool)) (K : PySem.W.Frag) (mg : Str → Option Value) : Prop extends Tx fa fn K mg where
  x : (es.all fun e => e K) = true
theorem TxE.mo {fa : List He.Fa} {fn : List He.DefD} {ex : List (PySem.W.Frag → Bool)} {K : PySem.W.Frag} {mg : Str → Option Value} (T : TxE fa fn ex K mg) (i : Nat) {e : PySem.W.Frag → Bool} (h : ex[i]? = some e) : e K = true := List.all_eq_true.mp T.x e (List.mem_of_getElem? h)
theorem TxE.con {fa : List He.Fa} {fn : List He.DefD} {ex : List (PySem.W.Frag → Bool)} {K : PySem.W.Frag} {mg : Str → Option Value} (T : TxE fa fn ex K mg) (i : Nat) {C f : Str} {v : He.Dv} (h : ex[i]? = some fun K => He.conB K C f v) (hc : PySem.W.copiedNames.contains f = false := by decide) : ∃ u, Con K (He.ga K C) f (v.v K) u := He.conB_ok (T.mo i h) hc
/-! ### objects -/
structure Pd where
  p : Hp → V → Prop
  mono : ∀ {H H' : Hp} {v : V}, Ex H H' → p H v → p H' v
def pd {α : Type} (R : Rep α) (x : α) : Pd := ⟨fun H v => R.r H v x, fun e h => R.mono e h⟩
def Fl (ns : List Str) (ps : List Pd) (H : Hp) (fs : List (Str × V)) : Prop := fs.map (·.1) = ns ∧ Paired (fun v (q : Pd) => q.p H v) (fs.map (·.2)) ps
theorem Fl.mono {ns : List Str} {ps : List Pd} {H H' : Hp} {fs : List (Str × V)} (e : Ex H H') (h : Fl ns ps H fs) : Fl ns ps H' fs := ⟨h.1, Paired.mapP h.2 fun _ q => q.mono e⟩
def rObj {α : Type} (C : Addr) (ns : List Str) (fl : α → List Pd) : Rep α := ⟨fun H v x => ∃ a dx fs, v = .ref a ∧ H a = some (.ins C dx fs) ∧ Fl ns (fl x) H fs, fun e ⟨a, dx, fs, h1, h2, h3⟩ => ⟨a, dx, fs, h1, e a _ h2, h3.mono e⟩⟩
def cI (C : Addr) (ns : List Str) (ps : List Pd) : CP := ⟨fun G o => ∃ dx fs, o = .ins C dx fs ∧ Fl ns ps G fs, fun e ⟨dx, fs, h1, h2⟩ => ⟨dx, fs, h1, h2.mono e⟩⟩
theorem look_at {ns : List Str} : ∀ {fs : List (Str × V)} {f : Str} {i : Nat} {v : V}, fs.map (·.1) = ns → (ns.findIdx? (fun x => x == f)) = some i → (fs.map (·.2))[i]? = some v → fs.lookup f = some v := by
  intro fs
  induction fs generalizing ns with
  | nil => intro f i v h1 h2 h3; simp at h3
  | cons q fs ih =>
    intro f i v h1 h2 h3
    obtain ⟨n, w⟩ := q
    subst h1
    rw [List.map_cons, List.findIdx?_cons] at h2
    rw [List.lookup_cons]
    by_cases hn : (n == f) = true
    · rw [if_pos hn] at h2
      cases h2
      have hf : (f == n) = true := by rw [beq_iff_eq] at hn ⊢; exact hn.symm
      rw [hf]
      simpa using h3
    · rw [if_neg hn] at h2
      obtain ⟨j, hj, e⟩ := Option.map_eq_some_iff.mp h2
      subst e
      have hf : (f == n) = false := by
        cases q : (f == n) with
        | false => rfl
        | true => rw [beq_iff_eq] at q; exact absurd (by rw [beq_iff_eq]; exact q.symm) hn
      rw [hf]
      exact ih rfl hj (by simpa using h3)
theorem look_no {ns : List Str} : ∀ {fs : List (Str × V)} {f : Str}, fs.map (·.1) = ns → ns.contains f = false → fs.lookup f = none := by
  intro fs
  induction fs generalizing ns with
  | nil => intro f _ _; rfl
  | cons q fs ih =>
    intro f h1 h2
    obtain ⟨n, w⟩ := q
    subst h1
    rw [List.map_cons, List.contains_cons, Bool.or_eq_false_iff] at h2
    rw [List.lookup_cons, h2.1]
    exact ih rfl h2.2
theorem putF_new {f : Str} {v : V} : ∀ {fs : List (Str × V)}, (fs.map (·.1)).contains f = false → putF f v fs = fs ++ [(f, v)]
  | [], _ => rfl
  | (n, w) :: fs, h => by
    rw [List.map_cons, List.contains_cons, Bool.or_eq_false_iff] at h
    have hn : ¬ (n = f) := fun e => by subst e; simp at h
    unfold putF
    rw [if_neg hn, putF_new h.2]; rfl
section
variable {K : PySem.W.Frag} {σ : L2.St} {G0 H0 G H G2 H2 W : Hp} {ls : List Addr} {cs : Cs} {l C : Addr} {cp cp' : CP} {ta tb te tc to : TE} {t u : TT} {α β γ ι κ : Type} {R : Rep α} {S : Rep β} {T : Rep γ} {A : AR ι} {D : Ends} {tu tv tz : TS} {g : TG} {ns : List Str} {fl : α → List Pd}
theorem nnO_ : (rObj C ns fl).NN := fun ⟨a, _, _, h, _⟩ => by rw [h]; simp
/-- o.f -/
theorem e_fld {m : Option α} {f : Str} (i : Nat) (p : α → β) (h : E to σ G W (rObj C ns fl) m) (hc : Cls K C) (hn : NoAttr K C f) (hi : ns.findIdx? (fun x => x == f) = some i) (hp : ∀ x, (fl x)[i]? = some (pd S (p x))) : E (tFld K to f) σ G W S (m >>= fun x => some (p x)) := fun z hz H e e' Q q => by
  obtain ⟨x, hx, hz⟩ := bindS hz
  cases hz
  refine h x hx H e e' _ fun v H1 G1 u r => ?_
  obtain ⟨a, dx, fs, rfl, h2, h3⟩ := r
  obtain ⟨w, hw, r2⟩ := pr_get h3.2 (hp x)
  exact ⟨a, C, dx, fs, w, rfl, u.gh a _ h2, hc, hn, look_at h3.1 hi hw, q w H1 G1 u r2⟩
/-- o.NAME, of the class -/
theorem e_con {m : Option α} {f : Str} {v : V} {uu : Value} {x : β} (h : E to σ G W (rObj C ns fl) m) (hc : Cls K C) (hk : Con K C f v uu) (hi : ns.contains f = false) (hv : ∀ H, S.r H v x) : E (tCon K to f) σ G W S (m >>= fun _ => some x) := fun z hz H e e' Q q => by
  obtain ⟨y, hy, hz⟩ := bindS hz
  cases hz
  refine h y hy H e e' _ fun v H1 G1 u r => ?_
  obtain ⟨a, dx, fs, rfl, h2, h3⟩ := r
  exact ⟨a, C, dx, fs, _, uu, rfl, u.gh a _ h2, hc, hk, look_no h3.1 hi, q _ H1 G1 u (hv G1)⟩
/-- o.m(..) -/
theorem e_meth {m : Option α} {mi : Option ι} {me : Str} {f : α × ι → Option γ} {ta : TA} {X : XK} (h : E to σ G W (rObj C ns fl) m) (ha : EA ta σ G W A mi) (hi : ns.contains me = false) : E (tMeth C me (PF (aC (rObj C ns fl) A) T f) [] X to ta) σ G W T (m >>= fun o => mi >>= fun i => f (o, i)) := fun z hz H e e' Q q => by
  obtain ⟨x, hx, hz⟩ := bindS hz
  obtain ⟨y, hy, hz⟩ := bindS hz
  refine h x hx H e e' _ fun v H1 G1 u r => ?_
  obtain ⟨a, dx, fs, rfl, h2, h3⟩ := r
  refine ⟨a, dx, fs, rfl, u.gh a _ h2, look_no h3.1 hi, ?_⟩
  refine (ha.mono u.gg (e'.trans u.hh)) y hy H1 u.gh (Ex.refl _) _ fun vs H3 G3 u3 r3 => ?_
  rw [List.append_nil]
  exact ⟨G3, (x, y), z, u3.gh, ⟨.ref a, vs, rfl, ⟨a, dx, fs, rfl, u3.gg a _ h2, h3.mono u3.gg⟩, r3⟩, hz, fun v H4 G4 u4 r4 => q v H4 G4 ((u.trans u3).trans u4) r4⟩
theorem el_meth {m : Option α} {mi : Option ι} {me : Str} {f : α × ι → Option (List γ)} {ta : TA} {X : XK} (h : E to σ G W (rObj C ns fl) m) (ha : EA ta σ G W A mi) (hi : ns.contains me = false) : EL (tMeth C me (PL (aC (rObj C ns fl) A) T f) [] X to ta) σ G W T (m >>= fun o => mi >>= fun i => f (o, i)) := fun z hz H e e' Q q => by
  obtain ⟨x, hx, hz⟩ := bindS hz
  obtain ⟨y, hy, hz⟩ := bindS hz
  refine h x hx H e e' _ fun v H1 G1 u r => ?_
  obtain ⟨a, dx, fs, rfl, h2, h3⟩ := r
  refine ⟨a, dx, fs, rfl, u.gh a _ h2, look_no h3.1 hi, ?_⟩
  refine (ha.mono u.gg (e'.trans u.hh)) y hy H1 u.gh (Ex.refl _) _ fun vs H3 G3 u3 r3 => ?_
  rw [List.append_nil]
  exact ⟨G3, (x, y), z, u3.gh, ⟨.ref a, vs, rfl, ⟨a, dx, fs, rfl, u3.gg a _ h2, h3.mono u3.gg⟩, r3⟩, hz, fun p H4 G4 hp u4 r4 => q p H4 G4 (fresh_back (u.hh.trans u3.hh) hp) ((u.trans u3).trans u4) r4⟩
/-- the promise of an __init__: fields of the new object -/
def PI {ι α : Type} (C : Addr) (A : AR ι) (ns : List Str) (fl : α → List Pd) (f : ι → Option α) : Sp := fun vs H Q _ => ∃ G x ws i o, vs = .ref x :: ws ∧ Wd G H [(x, cI C [] [])] ∧ A.r G ws i ∧ f i = some o ∧
  ∀ H2 G2, Fr G H G2 H2 [x] → Wd G2 H2 [(x, cI C ns (fl o))] → Q .non H2
theorem ob_freeze {p : Addr} {ps : List Pd} (w : Wd G H [(p, cI C ns ps)]) : ∃ G2, Ex G G2 ∧ Ex G2 H ∧ (∀ a, a ≠ p → G a = none → G2 a = none) ∧ ∃ dx fs, G2 p = some (.ins C dx fs) ∧ Fl ns ps G2 fs := by
  obtain ⟨h1, o, h2, dx, fs, rfl, h3⟩ := w.head
  refine ⟨upd G p (.ins C dx fs), Ex.new h1, fun a u' e => ?_, fun a ne h => by rw [upd_ne ne]; exact h, dx, fs, upd_same, h3.mono (Ex.new h1)⟩
  by_cases q : a = p
  · subst q; rw [upd_same] at e; cases e; exact h2
  · rw [upd_ne q] at e; exact w.ex a u' e
theorem new_ins {x dx : Addr} (e : Ex G H) (nx : H x = none) (ndx : H dx = none) (ne : dx ≠ x) : Wd G (upd (upd H dx (.own x)) x (.ins C dx [])) [(x, cI C [] [])] := by
  have nx' : (upd H dx (.own x)) x = none := by rw [upd_ne ne.symm]; exact nx
  have e1 : Ex G (upd H dx (.own x)) := e.trans (Ex.new ndx)
  exact (Wd.nil e1).new nx' ⟨dx, [], rfl, rfl, .nil⟩
/-- C(..) -/
theorem e_make {f : ι → Option α} {ta : TA} {mi : Option ι} {X : XK} (ha : EA ta σ G W A mi) : E (tMake C (PI C A ns fl f) [] X ta) σ G W (rObj C ns fl) (mi >>= f) := fun z hz H e e' Q q => by
  obtain ⟨i, hi, hz⟩ := bindS hz
  refine ha i hi H e e' _ fun vs H1 G1 u1 r1 => ?_
  intro x dx nx ndx ne
  rw [List.append_nil]
  have w1 : Wd G1 (upd (upd H1 dx (.own x)) x (.ins C dx [])) [(x, cI C [] [])] := new_ins u1.gh nx ndx ne
  refine ⟨G1, x, vs, i, z, rfl, w1, r1, hz, fun H2 G2 fr w2 => ⟨rfl, ?_⟩⟩
  obtain ⟨G3, k1, k2, k3, dx', fs, k4, k5⟩ := ob_freeze w2
  have hh : Ex H1 H2 := fun a o h => by
    have na : a ≠ x := ne_of_none h nx
    have nd : a ≠ dx := ne_of_none h ndx
    exact fr.fr a o (by rw [upd_ne na, upd_ne nd]; exact h) fun z => na (List.mem_singleton.mp z)
  have up : Up G1 H1 G3 H2 := ⟨fr.gg.trans k1, k2, hh, fun a h1 h2 => by
    have na : a ≠ x := fun z => by subst z; exact h1 nx
    have nd : a ≠ dx := fun z => by subst z; exact h1 ndx
    exact k3 a na (fr.nw a (by rw [upd_ne na, upd_ne nd]; exact h1) h2)⟩
  exact q _ H2 G3 (u1.trans up) ⟨x, dx', fs, rfl, k4, k5⟩
/-- self.f = e, a new field -/
theorem x_fldN {i j : Nat} {f : Str} {m : Option β} {x : β} {ps : List Pd} (w : Wo G0 H0 ls G H cs) (hc : cs[j]? = some (l, cI C ns ps)) (hi : σ[i]? = some (some (.ref l))) (h : E te σ G H S m) (hm : m = some x) (hC : Cls K C) (hn : NoAttr K C f) (hz : ns.contains f = false) (hs : ns.length < 1000)
    (k : ∀ H2 G2, Wo G0 H0 ls G2 H2 (cs.set j (l, cI C (ns ++ [f]) (ps ++ [pd S x]))) → Ex G G2 → tz D σ H2) : tSeq (sFld K (tVar i) te f) tz D σ H :=
  h x hm H w.ex (Ex.refl _) (fun y H1 => tVar i σ H1 fun x H2 => ∃ a C dx fs, x = .ref a ∧ H2 a = some (.ins C dx fs) ∧ Cls K C ∧ NoAttr K C f ∧ fs.length < 1000 ∧ tz D σ (upd H2 a (.ins C dx (putF f y fs)))) fun v H3 G3 u r => by
    have w3 := w.up u
    obtain ⟨_, o3, k2, dx, fs, rfl, k3⟩ := w3.w.getAt hc
    refine ⟨.ref l, hi, l, C, dx, fs, rfl, k2, hC, hn, by rw [← List.length_map (f := (·.1)), k3.1]; exact hs, ?_⟩
    rw [putF_new (by rw [k3.1]; exact hz)]
    refine k _ _ (w3.writeAt hc ⟨dx, _, rfl, ?_, ?_⟩) u.gg
    · rw [List.map_append, k3.1]; rfl
    · rw [List.map_append]; exact pr_app k3.2 (.cons r .nil)
theorem o_try {tb : TS} (h : tb { D with nx := tz D } σ H) : tSeq tb tz D σ H := h
theorem x_call {m : Option α} {x : α} (w : Wo G0 H0 ls G H cs) (h : E te σ G H R m) (hm : m = some x) (k : ∀ H2, Wo G0 H0 ls G H2 cs → tz D σ H2) : tSeq (tDrop te) tz D σ H :=
  h x hm H w.ex (Ex.refl _) (fun _ H1 => tz D σ H1) fun v H2 G2 u r => k H2 (w.sc u.hh)
/-! ### isinstance, the kind known -/
def KTy (R : Rep α) (n : String) : Prop := ∀ {K : PySem.W.Frag} {H : Hp} {v : V} {x : α}, R.r H v x → TyX K H v (.type n)
theorem ktI : KTy rI "int" := fun h => by rw [show _ = V.int _ from h]; exact .base (.int _)
theorem ktB : KTy rB "bool" := fun h => by rw [show _ = V.bl _ from h]; exact .base (.bl _)
theorem ktS : KTy rS "str" := fun h => by rw [show _ = V.str _ from h]; exact .base (.str _)
theorem ktL : KTy (rL R) "list" := fun ⟨a, vs, h, h2, _⟩ => by rw [h]; exact .base (.lst h2)
theorem ktT : KTy (rT R) "tuple" := fun ⟨a, vs, h, h2, _⟩ => by rw [h]; exact .base (.tup h2)
theorem ktP : KTy (rP R S) "tuple" := fun ⟨a, _, _, h, h2, _⟩ => by rw [h]; exact .base (.tup h2)
abbrev rIsiE (K : PySem.W.Frag) : List V → Hp → VK → Prop := rIsi K
theorem e_isi {m : Option α} {n c : String} {b : Bool} (h : E te σ G W R m) (hk : KTy R n) (hb : kitB n c = some b) : E (tCB (rIsi K) (tCons te (tCons (tC (.ty c)) tNil))) σ G W rB (m >>= fun _ => some b) := fun z hz H e e' Q q => by
  obtain ⟨x, hx, hz⟩ := bindS hz
  cases hz
  refine h x hx H e e' _ fun v H1 G1 u r => ?_
  exact ⟨v, .ty c, .type n, .type c, b, rfl, .ty c, hk (R.mono u.gh r), kit_ty hb, q _ H1 G1 u rfl⟩
/-! ### == of data -/
def rEqP (K : PySem.W.Frag) : R2 := fun x y H Q => ∃ d e, Dp K H x d ∧ Dp K H y e ∧ (d.plain = true ∧ d.depth ≤ 64) ∧ (e.plain = true ∧ e.depth ≤ 64) ∧ Q (.bl (PyData.eqv d e)) H
def rNeP (K : PySem.W.Frag) : R2 := fun x y H Q => ∃ d e, Dp K H x d ∧ Dp K H y e ∧ (d.plain = true ∧ d.depth ≤ 64) ∧ (e.plain = true ∧ e.depth ≤ 64) ∧ Q (.bl (!PyData.eqv d e)) H
theorem op_eqP {X : Cx} (hu : X.A.units + 64 < cLine) : OpR X (compareOp .Eq) (rEqP X.K) := by
  intro pins s σ H x y v u Q I rx ry h
  obtain ⟨d, e, hd, he, sd, se, q⟩ := h
  obtain ⟨as, r1⟩ := Dp.reads I d x v hd rx
  obtain ⟨bs, r2⟩ := Dp.reads I e y u he ry
  exact SeqAt.eq_plain r1 r2 sd.1 se.1 (by have := sd.2; omega) ⟨.bl _, H, I, rfl, q⟩
theorem op_neP {X : Cx} (hu : X.A.units + 64 < cLine) : OpR X (compareOp .NotEq) (rNeP X.K) := by
  intro pins s σ H x y v u Q I rx ry h
  obtain ⟨d, e, hd, he, sd, se, q⟩ := h
  obtain ⟨as, r1⟩ := Dp.reads I d x v hd rx
  obtain ⟨bs, r2⟩ := Dp.reads I e y u he ry
  exact SeqAt.ne_plain r1 r2 sd.1 se.1 (by have := sd.2; omega) ⟨.bl _, H, I, rfl, q⟩
structure Dt (R : Rep α) (d : α → PyData) (n : Nat) : Prop where
  dp : ∀ {K : PySem.W.Frag} {H : Hp} {v : V} {x : α}, R.r H v x → Dp K H v (d x)
  lay : ∀ x, (d x).plain = true
  dep : ∀ x, (d x).depth ≤ n
  eq : ∀ x y, PyData.eqv (d x) (d y) = true ↔ x = y
theorem dtI : Dt rI PyData.int 0 := ⟨fun h => by rw [show _ = V.int _ from h]; exact .int _, fun _ => rfl, fun _ => Nat.le_refl _, fun x y => by simp [PyData.eqv]⟩
theorem dtB : Dt rB PyData.bool 0 := ⟨fun h => by rw [show _ = V.bl _ from h]; exact .bl _, fun _ => rfl, fun _ => Nat.le_refl _, fun x y => by simp [PyData.eqv]⟩
theorem eqvD {d : α → PyData} {n : Nat} [DecidableEq α] (h : Dt R d n) (x y : α) : PyData.eqv (d x) (d y) = decide (x = y) := by
  by_cases e : x = y
  · rw [decide_eq_true e]; exact (h.eq x y).mpr e
  · rw [decide_eq_false e]
    cases q : PyData.eqv (d x) (d y) with
    | false => rfl
    | true => exact absurd ((h.eq x y).mp q) e
theorem rr_eqD {d : α → PyData} {n : Nat} [DecidableEq α] (h : Dt R d n) (hn : n ≤ 64) : RR (rEqP K) R R rB (fun x y => some (decide (x = y))) := fun v w x y z H G hv hw hz e Q q => by
  cases hz
  exact ⟨d x, d y, h.dp (R.mono e hv), h.dp (R.mono e hw), ⟨h.lay x, Nat.le_trans (h.dep x) hn⟩, ⟨h.lay y, Nat.le_trans (h.dep y) hn⟩, q _ H G (Up.refl e) (congrArg V.bl (eqvD h x y))⟩
theorem rr_neD {d : α → PyData} {n : Nat} [DecidableEq α] (h : Dt R d n) (hn : n ≤ 64) : RR (rNeP K) R R rB (fun x y => some (!decide (x = y))) := fun v w x y z H G hv hw hz e Q q => by
  cases hz
  exact ⟨d x, d y, h.dp (R.mono e hv), h.dp (R.mono e hw), ⟨h.lay x, Nat.le_trans (h.dep x) hn⟩, ⟨h.lay y, Nat.le_trans (h.dep y) hn⟩, q _ H G (Up.refl e) (congrArg (fun b => V.bl (!b)) (eqvD h x y))⟩
end
end Sim

namespace Sim
open PySem L2 Evl
section
variable {K : PySem.W.Frag} {σ : L2.St} {G0 H0 G H G2 H2 W : Hp} {ls : List Addr} {cs : Cs} {l C : Addr} {cp cp' : CP} {ta tb te tc to : TE} {t u : TT} {α β γ ι κ : Type} {R : Rep α} {S : Rep β} {T : Rep γ} {A : AR ι} {D : Ends} {tu tv tz : TS} {g : TG} {ns : List Str} {fl : α → List Pd}
/-! ### a list lent to a def that only reads it -/
/-- at l, its items standing in the data heap, it itself not -/
structure Lent (G W : Hp) (l : Addr) (B : Rep κ) (ys : List κ) : Prop where
  n : G l = none
  at_ : ∃ vs, W l = some (.lst vs) ∧ Paired (B.r G) vs ys
def PB (A : AR ι) (ad : ι → Addr) (B : Rep κ) (R : Rep α) (f : List κ → ι → Option α) : Sp := fun vs H Q _ => ∃ G i ys x, Ex G H ∧ A.r G vs i ∧ Lent G H (ad i) B ys ∧ f ys i = some x ∧ ∀ v H2 G2, Up G H G2 H2 → R.r G2 v x → Q v H2
def PIB (C : Addr) (A : AR ι) (ad : ι → Addr) (B : Rep κ) (ns : List Str) (fl : α → List Pd) (f : List κ → ι → Option α) : Sp := fun vs H Q _ => ∃ G x ws i ys o, vs = .ref x :: ws ∧ Wd G H [(x, cI C [] [])] ∧ A.r G ws i ∧ Lent G H (ad i) B ys ∧ f ys i = some o ∧
  ∀ H2 G2, Fr G H G2 H2 [x] → Wd G2 H2 [(x, cI C ns (fl o))] → Q .non H2
theorem Wo.lent {i : Nat} {B : Rep κ} {ys : List κ} (w : Wo G0 H0 ls G H cs) (h : cs[i]? = some (l, cL B ys)) : Lent G H l B ys := by
  obtain ⟨h1, o, h2, vs, rfl, h3⟩ := w.w.getAt h
  exact ⟨h1, vs, h2, h3⟩
/-- still lent, as the def goes on -/
theorem Wo.lentOf {B : Rep κ} {ys : List κ} (w : Wo G0 H0 ls G H cs) (L : Lent G0 H0 l B ys) (h : l ∉ ls) : Lent G H l B ys := by
  obtain ⟨vs, h2, h3⟩ := L.at_
  exact ⟨w.f.nw _ (by rw [h2]; simp) L.n, vs, w.f.fr _ _ h2 h, Paired.mapP h3 fun _ _ => B.mono w.f.gg⟩
theorem Lent.up {B : Rep κ} {ys : List κ} {G1 H1 H : Hp} (L : Lent G W l B ys) (e' : Ex W H) (u : Up G H G1 H1) : Lent G1 H1 l B ys := by
  obtain ⟨vs, h2, h3⟩ := L.at_
  exact ⟨u.nw _ (by rw [e' _ _ h2]; simp) L.n, vs, u.hh _ _ (e' _ _ h2), Paired.mapP h3 fun _ _ => B.mono u.gg⟩
theorem Lent.rl {B : Rep κ} {ys : List κ} (L : Lent G W l B ys) (e : Ex G W) : (rL B).r W (.ref l) ys := by
  obtain ⟨vs, h2, h3⟩ := L.at_
  exact ⟨l, vs, rfl, h2, Paired.mapP h3 fun _ _ => B.mono e⟩
theorem Lent.ne {B : Rep κ} {ys : List κ} {x : Addr} {ps : List Pd} (L : Lent G H l B ys) (w : Wd G H [(x, cI C ns ps)]) : l ∉ [x] := fun z => by
  obtain ⟨vs, h2, _⟩ := L.at_
  obtain ⟨_, o, k2, dx, fs, rfl, _⟩ := w.head
  rw [List.mem_singleton.mp z, k2] at h2
  cases h2
theorem x_forN {i : Nat} {xs : List α} (w : Wo G0 H0 ls G H cs) (L : Lent G0 H0 l R xs) (hl : l ∉ ls) (hi : σ[i]? = some (some (.ref l))) (P : Nat → Hp → Hp → L2.St → Prop) (hP : ∀ i G' H' σ', P i G' H' σ' → ∃ cs', Wo G0 H0 ls G' H' cs')
    (h0 : P 0 G H σ)
    (hs : ∀ i x v σ' G' H', xs[i]? = some x → P i G' H' σ' → R.r G' v x → g v σ' H' fun σ2 H2 => tu { D with nx := fun σ' H' => ∃ G', P (i + 1) G' H' σ', ct := fun σ' H' => ∃ G', P (i + 1) G' H' σ', bk := tz D } σ2 H2)
    (hd : ∀ σ' G' H', P xs.length G' H' σ' → tz D σ' H') : tSeq (tFor (iList K (tVar i)) g tu) tz D σ H := by
  obtain ⟨vs, h2, h3⟩ := L.at_
  refine ⟨.ref l, hi, l, rfl, ⟨vs, Or.inl (Or.inl (w.f.fr _ _ h2 hl))⟩, for_list (K := K) (a := l) (xs := vs) (D := { D with nx := tz D }) (fun i σ' H' => ∃ G', P i G' H' σ') ⟨G, h0⟩ ?_ ?_ ?_⟩
  · rintro i σ' H' _ ⟨G', p⟩
    obtain ⟨cs', w'⟩ := hP _ _ _ _ p
    exact Or.inl (Or.inl (w'.f.fr _ _ h2 hl))
  · rintro i y σ' H' hy ⟨G', p⟩
    obtain ⟨x, hx, r⟩ := pr_get' h3 hy
    obtain ⟨cs', w'⟩ := hP _ _ _ _ p
    exact hs i x y σ' G' H' hx p (R.mono w'.f.gg r)
  · rintro σ' H' ⟨G', p⟩
    rw [h3.length] at p
    exact hd σ' G' H' p
/-- f(.., cell, ..), the cell only read -/
theorem e_callB {B : Rep κ} {ad : ι → Addr} {f : List κ → ι → Option γ} {ys : List κ} {ta : TA} {mi : Option ι} {X : XK} (ha : EA ta σ G W A mi) (L : Lent G W l B ys) (hl : ∀ i, mi = some i → ad i = l) : E (tCall (PB A ad B T f) [] X ta) σ G W T (mi >>= fun i => f ys i) := fun z hz H e e' Q q => by
  obtain ⟨i, hi, hz⟩ := bindS hz
  refine ha i hi H e e' _ fun vs H1 G1 u1 r1 => ?_
  rw [List.append_nil]
  have := hl i hi
  subst this
  exact ⟨G1, i, ys, z, u1.gh, r1, L.up e' u1, hz, fun v H2 G2 u2 r => q v H2 G2 (u1.trans u2) r⟩
theorem e_makeB {B : Rep κ} {ad : ι → Addr} {f : List κ → ι → Option α} {ys : List κ} {ta : TA} {mi : Option ι} {X : XK} (ha : EA ta σ G W A mi) (L : Lent G W l B ys) (hl : ∀ i, mi = some i → ad i = l) : E (tMake C (PIB C A ad B ns fl f) [] X ta) σ G W (rObj C ns fl) (mi >>= fun i => f ys i) := fun z hz H e e' Q q => by
  obtain ⟨i, hi, hz⟩ := bindS hz
  refine ha i hi H e e' _ fun vs H1 G1 u1 r1 => ?_
  have := hl i hi
  subst this
  intro x dx nx ndx ne
  rw [List.append_nil]
  have w1 : Wd G1 (upd (upd H1 dx (.own x)) x (.ins C dx [])) [(x, cI C [] [])] := new_ins u1.gh nx ndx ne
  have L1 := L.up e' u1
  have L2 : Lent G1 (upd (upd H1 dx (.own x)) x (.ins C dx [])) (ad i) B ys := by
    obtain ⟨vs', h2, h3⟩ := L1.at_
    exact ⟨L1.n, vs', by rw [upd_ne (ne_of_none h2 nx), upd_ne (ne_of_none h2 ndx)]; exact h2, h3⟩
  refine ⟨G1, x, vs, i, ys, z, rfl, w1, r1, L2, hz, fun H2 G2 fr w2 => ⟨rfl, ?_⟩⟩
  obtain ⟨G3, k1, k2, k3, dx', fs, k4, k5⟩ := ob_freeze w2
  have hh : Ex H1 H2 := fun a o h => by
    have na : a ≠ x := ne_of_none h nx
    have nd : a ≠ dx := ne_of_none h ndx
    exact fr.fr a o (by rw [upd_ne na, upd_ne nd]; exact h) fun z => na (List.mem_singleton.mp z)
  have up : Up G1 H1 G3 H2 := ⟨fr.gg.trans k1, k2, hh, fun a h1 h2 => by
    have na : a ≠ x := fun z => by subst z; exact h1 nx
    have nd : a ≠ dx := fun z => by subst z; exact h1 ndx
    exact k3 a na (fr.nw a (by rw [upd_ne na, upd_ne nd]; exact h1) h2)⟩
  exact q _ H2 G3 (u1.trans up) ⟨x, dx', fs, rfl, k4, k5⟩
end
/-! ### a method by its name, with its promise -/
def Fm (P : Program) (w : World) (K : PySem.W.Frag) (mg : Str → Option Value) (base : Heap) (CX : CXT) (k : Nat) (c m : Str) (ps : List Str) (sp : Sp) : Prop :=
  ∃ fd, FnOk P w K mg base CX k (He.ma K (He.ga K c) m) fd ps sp ∧ Binds K fd ps []
theorem fm_mk {K : PySem.W.Frag} {mg : Str → Option Value} {P : Program} {w : World} {base : Heap} {CX : CXT} {k : Nat} {c m x qual : Str} {ps : List Str} {sp : Sp} {fd : FuncData} {params : Arguments} {body : List Stmt} {scope : Scope} (F : FunD K x qual params body scope [] [] (He.ma K (He.ga K c) m) fd)
    (hb : ∀ (kV doc pm : Value) (an : Option Addr) (cdv ct : Value) (us : List Value), us.length = ps.length → bindArgs (PySem.W.fnOf x qual params body scope .none kV doc pm an cdv ct) ⟨us, []⟩ = pure (ps.zip us))
    (h : FnOk P w K mg base CX k (He.ma K (He.ga K c) m) fd ps sp) : Fm P w K mg base CX k c m ps sp := ⟨fd, h, F.bindsN hb⟩
/-! ### data that is compared -/
section
variable {α β : Type} {R : Rep α} {S : Rep β}
theorem pr_dp {d : α → PyData} {n : Nat} (h : Dt R d n) {K : PySem.W.Frag} {H : Hp} : ∀ {vs : List V} {xs : List α}, Paired (R.r H) vs xs → DpAll K H vs (xs.map d)
  | _, _, .nil => .nil
  | _, _, .cons r t => .cons (h.dp r) (pr_dp h t)
theorem layAll {d : α → PyData} {n : Nat} (h : Dt R d n) : ∀ xs : List α, PyData.plainAll (xs.map d) = true
  | [] => rfl
  | x :: xs => Bool.and_eq_true_iff.mpr ⟨h.lay x, layAll h xs⟩
theorem depAll {d : α → PyData} {n : Nat} (h : Dt R d n) : ∀ xs : List α, PyData.depthAll (xs.map d) ≤ n
  | [] => Nat.zero_le _
  | x :: xs => Nat.max_le.mpr ⟨h.dep x, depAll h xs⟩
theorem eqAll {d : α → PyData} {n : Nat} (h : Dt R d n) : ∀ xs ys : List α, PyData.eqvAll (xs.map d) (ys.map d) = true ↔ xs = ys
  | [], [] => by simp [PyData.eqvAll]
  | x :: xs, y :: ys => by
    simp only [List.map_cons, PyData.eqvAll, Bool.and_eq_true, h.eq, eqAll h xs ys, List.cons.injEq]
  | [], y :: ys => by simp [PyData.eqvAll]
  | x :: xs, [] => by simp [PyData.eqvAll]
theorem dtL {d : α → PyData} {n : Nat} (h : Dt R d n) : Dt (rL R) (fun xs => PyData.list (xs.map d)) (n + 1) :=
  ⟨fun ⟨a, vs, e, h2, h3⟩ => by rw [e]; exact .lst (Or.inl (Or.inl h2)) (pr_dp h h3), fun xs => layAll h xs, fun xs => Nat.succ_le_succ (depAll h xs), fun xs ys => by simp only [PyData.eqv]; exact eqAll h xs ys⟩
theorem dtT {d : α → PyData} {n : Nat} (h : Dt R d n) : Dt (rT R) (fun xs => PyData.tuple (xs.map d)) (n + 1) :=
  ⟨fun ⟨a, vs, e, h2, h3⟩ => by rw [e]; exact .tup (Or.inl (Or.inl h2)) (pr_dp h h3), fun xs => layAll h xs, fun xs => Nat.succ_le_succ (depAll h xs), fun xs ys => by simp only [PyData.eqv]; exact eqAll h xs ys⟩
theorem dtP {d : α → PyData} {f : β → PyData} {n k : Nat} (h : Dt R d n) (h' : Dt S f k) : Dt (rP R S) (fun p => PyData.tuple [d p.1, f p.2]) (max n k + 1) :=
  ⟨fun ⟨a, x, y, e, h2, h3, h4⟩ => by rw [e]; exact .tup (Or.inl (Or.inl h2)) (.cons (h.dp h3) (.cons (h'.dp h4) .nil)), fun p => by
    show (PyData.plain _ && (PyData.plain _ && true)) = true
    rw [h.lay, h'.lay]; rfl, fun p => by
    show max (PyData.depth _) (max (PyData.depth _) 0) + 1 ≤ _
    have := h.dep p.1; have := h'.dep p.2; omega, fun p q => by
    simp only [PyData.eqv, PyData.eqvAll, Bool.and_eq_true, h.eq, h'.eq, and_true]
    exact ⟨fun ⟨a, b⟩ => Prod.ext a b, fun e => by subst e; exact ⟨rfl, rfl⟩⟩⟩
end
end Sim
namespace Sim
open PySem L2 Evl
section
variable {K : PySem.W.Frag} {σ : L2.St} {G0 H0 G H G2 H2 W : Hp} {ls : List Addr} {cs : Cs} {l C : Addr} {te : TE} {α β : Type} {R : Rep α} {S : Rep β} {ns : List Str}
/-- the script -/
def rScr (K : PySem.W.Frag) : Rep (List Int) := ⟨fun H v xs => ∃ a, v = .ref a ∧ SqL K H a (xs.map V.int), fun e ⟨a, h1, h2⟩ => ⟨a, h1, ex_l e h2⟩⟩
theorem rr_ixScr : RR (rIxL K) (rScr K) rI rI (fun xs i => atI xs i) := fun v w xs i z H G hv hw hz e Q q => by
  obtain ⟨a, rfl, h2⟩ := hv
  cases hw
  have hz' : (ixN xs.length i).bind (fun j => xs[j]?) = some z := hz
  cases hj : ixN xs.length i with
  | none => rw [hj] at hz'; cases hz'
  | some j =>
    rw [hj] at hz'
    have hz2 : xs[j]? = some z := hz'
    refine ⟨a, _, i, .int z, rfl, rfl, ex_l e h2, ?_, q _ H G (Up.refl e) rfl⟩
    show (ixN (xs.map V.int).length i).bind (fun j => (xs.map V.int)[j]?) = some (.int z)
    rw [List.length_map, hj]
    show (xs.map V.int)[j]? = _
    rw [List.getElem?_map, hz2]; rfl
theorem rc_lenScr : RC (rLn K) (aC (rScr K) aN) rI (fun i => some (i.1.length : Int)) := fun vs i z H G hv hz e Q q => by
  cases hz
  obtain ⟨v, ws, rfl, ⟨a, rfl, h2⟩, rfl⟩ := hv
  refine ⟨a, _, rfl, Or.inl (ex_l e h2), q _ H G (Up.refl e) ?_⟩
  show V.int _ = V.int _
  rw [List.length_map]
def powM (a b : Int) : Option Int := if 0 ≤ b ∧ b ≤ 1000000 ∧ a.natAbs < 2 ^ 64 then some (a ^ b.toNat) else none
theorem rr_pow : RR (L2.rI CPow fun i j => .int (i ^ j.toNat)) rI rI rI powM := rr_I fun i j z h => by
  unfold powM at h
  split at h
  · rename_i hc; cases h; exact ⟨hc, fun _ => rfl⟩
  · cases h
/-- self.NAME while self is being made -/
theorem e_conC {G' : Hp} {i j : Nat} {f : Str} {v : V} {uu : Value} {x : β} {ps : List Pd} (w : Wo G0 H0 ls G H cs) (hc : cs[j]? = some (l, cI C ns ps)) (hi : σ[i]? = some (some (.ref l))) (hC : Cls K C) (hk : Con K C f v uu) (hz : ns.contains f = false) (hv : ∀ H, S.r H v x) : E (tCon K (tVar i) f) σ G' H S (some x) := fun y hy H' e e' Q q => by
  cases hy
  obtain ⟨_, o, k2, dx, fs, rfl, k3⟩ := w.w.getAt hc
  exact ⟨.ref l, hi, l, C, dx, fs, v, uu, rfl, e' _ _ k2, hC, hk, look_no k3.1 hz, q _ H' G' (Up.refl e) (hv G')⟩
theorem el_listRg {m : Option Int} (h : E te σ G W rI m) : EL (tLstRg (tRg1 te)) σ G W rI (m >>= fun n => rngM 0 n) := fun z hz H e e' Q q => by
  obtain ⟨n, hn, hz⟩ := bindS hz
  refine h n hn H e e' _ fun v H1 G1 u r => ?_
  unfold rngM at hz
  split at hz
  · rename_i hb
    cases hz
    refine ⟨n, r, ⟨by omega, by omega, by omega, by omega, by omega⟩, fun p hp => q p _ G1 (fresh_back u.hh hp) (u.trans (up_new u.gh hp)) (wd_new u.gh hp ?_)⟩
    have : rgV 0 n = (rng 0 n).map V.int := by unfold rgV rng; rw [List.map_map]; rfl
    rw [this]
    exact ints_pr _
  · cases hz
end
end Sim

set_option maxHeartbeats 4000000
/-! own exceptions: an __init__ whose first statement is super().__init__(text) -/
namespace Sim
open PySem PySem.Spec PyProof.Rows L2 PySem.W PySem.Calls NdefX
/-- what the written part says of such an __init__ -/
structure SupC (P : Program) (K : Frag) (mg : Str → Option Value) (C f : Addr) (fd : FuncData) (F : NF) (ps : List Str) : Prop where
  lk : ∃ oc od osl kV doc pm an ct, fd = PySem.W.fnX F.name F.qual F.params F.body F.scope F.cl .none kV doc pm an (.ref F.c) ct ∧ K.lookup f = some ⟨oc, od, .func fd, osl⟩
  cd : PySem.W.codeIn K (.ref F.c) F.qual = true
  cl : ∃ cc oc od osl, F.cl = [(("__class__" : Str), cc)] ∧ K.lookup cc = some ⟨oc, od, .cell (some (.ref C)), osl⟩
  par : ∃ ar ps', (F.params.posonlyargs ++ F.params.args).head? = some ar ∧ ps = ar.arg :: ps' ∧ F.scope.names.lookup ar.arg = some .local
  code : ∃ ccl cdd vs ccs file tf, K.lookup F.c = some ⟨ccl, cdd, .fields vs, ccs⟩ ∧ vs[2]? = some (.str file tf) ∧ ((P.main.file : Str) == file) = true
  cls : ∃ cdD, clsIn K C = some cdD
  sub : mroIn K C (.ref C) = some true
  ks : F.scope.names.lookup ("super" : Str) = some .globalImplicit
  kc : F.scope.names.lookup ("__class__" : Str) = some .free
  mg : mg "super" = none
  top : (P.main.scope.names.lookup ("super" : Str)).isSome = false
  opq : nsIn K cStatics "thirdparty.any" = some none
  sup : ks_superIn K C C "__init__" = some (some (.builtin "ValueError.__init__"))
  ve : subIn K (.ref C) (.type "ValueError") = some true
  ex : OexC K C
section
variable {CX : CXT} {P : Program} {w : World} {K : PySem.W.Frag} {mg : Str → Option Value} {base : Heap} {N ps : List Str} {F : NF} {C f : Addr} {fd : FuncData} {k : Nat} {sp : Sp} {t : Str} {rest : List Stmt} {p0 p1 p2 p3 p4 pc : Pos} {j : Nat} {pl : Sem Bool}
theorem fn_exc (S : NScope N ps ["__class__"] F.scope) (Y : SupC P K mg C f fd F ps) (hbd : F.body = .Expr (.Call (.Attribute (.Call (.Name "super" p0) [] [] p1) "__init__" p2) [.Constant (.str t) j pc] [] p3) p4 :: rest)
    (hev : ∀ L : Addr, eval (.Call (.Attribute (.Call (.Name "super" p0) [] [] p1) "__init__" p2) [.Constant (.str t) j pc] [] p3) (envF F f L) = (do
      let ov ← attributeBase (.Call (.Name "super" p0) [] [] p1) "__init__" (envF F f L) (eval (.Call (.Name "super" p0) [] [] p1) (envF F f L))
      standAt p2.atName
      let (g, first) ← holding [ov] (getMethod ov "__init__" pl)
      callWith p3 g first (backTo p3 (starEach [.Constant (.str t) j pc] (envF F f L))) []))
    (hint : ∀ L : Addr, interactive (envF F f L) = false)
    (len : ∀ vs H Q E, sp vs H Q E → vs.length = ps.length)
    (hbody : ∀ (A : Around) (outer : List Env) (s : Shared) (H : Hp) (vs : List V) (Q : VK) (E : XK), Room k (A.deeper (envF F f s.heap.objs.size)) → sp vs H Q E →
      ∃ a vs', vs = .ref a :: vs' ∧ H a = some (exo a C none) ∧ ∃ t, PSs (ncx CX P w K mg base N F f A outer s H E) rest t ∧ t { nx := fun _ H' => Q .non H', rt := Q } (startF N vs [none]) H) :
    FnOk P w K mg base CX (k + 1) f fd ps sp := by
  obtain ⟨oc, od, osl, kV, doc, pm, an, ct, rfl, lk⟩ := Y.lk
  refine ⟨len, fun A outer s H args us vs Q E hr e0 hb r hsp => ?_⟩
  have hl := len _ _ _ _ hsp
  have KX : K.In s.heap := e0.mod.kin.keeps fun b o e => (e0.bs b o e).1
  have lim : s.heap.NoLimit := e0.mod.nolimit.keeps fun b o e => (e0.bs b o e).1
  refine codeAny_call_function hr.depth (KX _ _ lk) rfl S.co S.gen rfl (PySem.W.codeRec_of KX Y.cd) (hb _ _ _ _ ?_)
  refine wpAny_newFunctionEnv S.nocell (fun ⟨n, _⟩ hy => S.par n (List.of_mem_zip hy).1) (fun h₁ hns hsb => ⟨lim.fresh _ hsb, ?_⟩) S.kind
  show codeAny _ _ (.func F.body (envF F f s.heap.objs.size)) _ _
  have kp : ∀ b o, s.heap.get? b = some o → h₁.get? b = some o := fun b o e => hsb.extBut b o (Nat.ne_of_lt (Heap.lt_size e)) (Heap.get?_push_of_some _ e)
  obtain ⟨a, vs', rfl, ea, tt, ht, hq⟩ := hbody A outer s H vs Q E (hr.deeper _) hsp
  obtain ⟨cc, kc0, kc1, kc2, hcl, hcc⟩ := Y.cl
  have ccb : base.get? cc = some ⟨kc0, kc1, .cell (some (.ref C)), kc2⟩ := e0.mod.kin _ _ hcc
  have CA : CellsAt F.cl ["__class__"] [none] s.heap H := by
    rw [hcl]
    have look : ∀ y c, ([(("__class__" : Str), cc)] : List (Str × Addr)).lookup y = some c → y = "__class__" ∧ c = cc := fun y c e => by
      rw [List.lookup_cons] at e
      cases h : (y == ("__class__" : Str)) with
      | true => rw [h] at e; cases e; exact ⟨eq_of_beq h, rfl⟩
      | false => rw [h] at e; cases e
    refine ⟨rfl, fun y c e => ?_, fun x y c e1 e2 => ?_, fun i y e => ?_⟩
    · obtain ⟨_, rfl⟩ := look y c e
      exact ⟨(e0.bs _ _ ccb).2, _, ⟨_, (e0.bs _ _ ccb).1, rfl⟩⟩
    · rw [(look x c e1).1, (look y c e2).1]
    · cases i with
      | zero =>
        cases e
        exact ⟨cc, by rfl, fun v e => by cases e⟩
      | succ i => cases e
  have I : Inv (ncx CX P w K mg base N F f A outer s H E) [] (startF N (.ref a :: vs') [none]) H { s with heap := h₁, toks := s.toks + (ps.zip us).length } := inv_startN S hr.hd e0 hl r CA hns kp
  refine ks_codeAny_funcAt ?_
  have fin : ∀ {σ' : L2.St} {H' : Hp} {v : V} {u : Value} {s' : Shared}, Inv (ncx CX P w K mg base N F f A outer s H E) [] σ' H' s' → RelV v u → Q v H' → CE outer P w H s Q u s' :=
    fun {σ' H' v u s'} J rv q => ⟨v, H', J.os, J.bare, J.base, J.hok, rv, q⟩
  have tail : ∀ s1 : Shared, Inv (ncx CX P w K mg base N F f A outer s H E) [] (startF N (.ref a :: vs') [none]) H s1 →
      _root_.PySem.wpAt (model P w) (A.deeper (envF F f s.heap.objs.size)) (.func F.body (envF F f s.heap.objs.size)) (execs rest (envF F f s.heap.objs.size)) (fun f s' => CR CX outer P w H s Q E (.ok (.ret (match f with | .ret v => v | _ => .none))) s')
        (fun e s' => wpAny (model P w) (A.deeper (envF F f s.heap.objs.size)) (leaving (envF F f s.heap.objs.size) e) (fun _ s'' => CR CX outer P w H s Q E (.error e) s'') (fun e' s'' => CR CX outer P w H s Q E (.error e') s'') s') s1 := by
    intro s1 I1
    refine wpAt_of_wpAny (wpAny_mono (ht.run [] _ (startF N (.ref a :: vs') [none]) H _ I1 hq) (fun fl s' hs => ?_) fun e s' hs => hs)
    cases fl with
    | ret u =>
      obtain ⟨v, σ', H', J, rv, q⟩ := hs
      exact fin J rv q
    | next =>
      obtain ⟨σ', H', J, q⟩ := hs
      exact fin (v := V.non) (u := Value.none) J rfl q
    | brk =>
      obtain ⟨_, _, _, q⟩ := hs
      exact False.elim q
    | cont =>
      obtain ⟨_, _, _, q⟩ := hs
      exact False.elim q
  rw [hbd]
  rw [← hbd]
  refine (congrArg (fun z => _root_.PySem.wpAt (model P w) (A.deeper (envF F f s.heap.objs.size)) (.func F.body (envF F f s.heap.objs.size)) (execs z (envF F f s.heap.objs.size)) _ _ _) hbd).mpr ?_
  refine ks_wpAt_execs_cons (ks_wpAt_Expr_any (ks_wpAt_MethodCall ?_ (hev _)) (hint _))
  obtain ⟨ar, ps', hp, hps, hka⟩ := Y.par
  obtain ⟨ccl, cdd, cvs, ccs, file, tf, hcode, hvs, hfile⟩ := Y.code
  obtain ⟨cdD, hD⟩ := Y.cls
  obtain ⟨oD, hD1, hD2⟩ : ∃ oD, h₁.get? C = some oD ∧ oD.data = .cls cdD := by
    unfold clsIn at hD
    split at hD
    · rename_i c d cd' sl ho
      cases hD
      exact ⟨_, I.kIn _ _ ho, rfl⟩
    · cases hD
  obtain ⟨t1, ho⟩ := exo_at I.hok ea
  obtain ⟨mb, hb1, hb2⟩ := I.mod.blt
  have hboot : bootBuiltins "super" = some (.type "super") := by kernel_rfl
  refine ks_wpAt_super_base (env := envF F f s.heap.objs.size) (fd := PySem.W.fnX F.name F.qual F.params F.body F.scope F.cl .none kV doc pm an (.ref F.c) ct) Y.ks Y.kc (by decide) rfl (I.kIn _ _ lk) rfl hp rfl (I.kIn _ _ hcode) rfl hvs hfile Y.top ?_
  refine ks_loadName_global S.kind Y.ks (loadGlobal_builtin (env := envF F f s.heap.objs.size) (I.mod.glob.keeps I.bk) Y.mg (hb1.keeps I.bk) ((hb2 _ (by decide)).trans hboot) ⟨rfl, ?_⟩)
  refine wpAny_loadName_free S.kind Y.kc (show List.lookup ("__class__" : Str) F.cl = some cc by rw [hcl]; rfl) ⟨_, I.kIn _ _ hcc, rfl⟩ ?_
  have hself : (ps.zip us).reverse.lookup ar.arg = some (.ref a) := by
    have ndP : ps.Nodup := by
      have q := S.nd.sublist (List.take_sublist (ps.length + [("__class__" : Str)].length) N)
      rw [S.pre] at q
      exact (List.nodup_append.mp q).1
    cases r with
    | cons rx rr =>
      cases rx
      exact zip_look (i := 0) ndP (by rw [hps]; rfl) rfl
  refine wpAny_loadName_local S.kind hka hns hself ?_
  refine ks_wpAny_isType_cls hD1 hD2 ⟨rfl, ?_⟩
  refine ks_wpAny_call_super hD1 hD2 ho rfl (fun c e => by cases e) (looks_mroIn I.kIn Y.sub) (fun h2 e2 k2 => ?_)
  have I2 := I.kept (t' := s.toks + (ps.zip us).length) (h' := h2) k2
  have ho2 := k2 _ _ ho
  have A2 : InstAt h2 a { cls := .ref C, dict := none, data := .fields #[.ref t1, .none, .none, .none, .bool false, .none] } C none := ⟨ho2, rfl, rfl, trivial⟩
  have hI : Looks (model P w) h2 (isInstance (.ref a) (.type "ValueError")) true := A2.type.andThen (looks_subIn I2.kIn Y.ve)
  have hsu := Y.sup
  unfold ks_superIn at hsu
  rw [hD] at hsu
  refine kxs_getMethod kxs_ValueError e2 (looks_opaque I2.kIn Y.opq) (l₀ := cdD.mro) (fun A Q E s k q => wpAny_bind ((looks_clsIn I2.kIn hD) A _ E s k (wpAny_pure q))) rfl I2.kIn hsu hI (ks_ne I2.kIn A2 hD) (by decide) ?_
  have I3 := I2.kept (t' := s.toks + (ps.zip us).length + 1) (h' := h2.push (kxs_mw "ValueError.__init__" a)) (fun b o e => Heap.get?_push_of_some _ e)
  have hu : (h2.push (kxs_mw "ValueError.__init__" a)).get? h2.objs.size = some (kxs_mw "ValueError.__init__" a) := Heap.get?_push_at rfl rfl
  refine kxs_callWith (i := "ValueError.__init__") (x := a) rfl ?_
  refine evalArgs_plain (spliced_cons ?_)
  show wpAny _ _ (eval (.Constant (.str t) j pc) (envF F f s.heap.objs.size)) _ _ _
  refine Calls.Constant_str (spliced_nil ⟨hu, ?_⟩)
  obtain ⟨nm, q, NN, bs, bm, sn, sub, ab, col, dd, k0, k1, k2', k3, k5, hC, hbm⟩ := Y.ex.cls
  have hC3 := I3.kIn _ _ hC
  have ho3 : (h2.push (kxs_mw "ValueError.__init__" a)).get? a = some (PySem.W.excObj C t1 none .none) := Heap.get?_push_of_some _ ho2
  refine wpAny_call (codeAny_of_tree ?_)
  show wpAny _ (A.deeper (envF F f s.heap.objs.size)).in1 (callAny (.ref h2.objs.size) ⟨_, []⟩) _ _ _
  simp only [callAny]
  refine wpAny_bind (wpAny_load hu ?_)
  simp only [kxs_mw, show (Value.type "method-wrapper" == Value.type "method" || Value.type "method-wrapper" == Value.type "builtin_function_or_method" || Value.type "method-wrapper" == Value.type "method-wrapper") = true by decide, if_true]
  refine KFB.if_so (by decide) ?_
  refine wpAny_bind (check_bound_init PySem.F.excBase_ValueError.toExcCallFacts hC3 ho3 rfl ?_)
  refine wpAny_bind (wpAny_pure (wpAny_pure ?_))
  refine ⟨plainId_quiet PySem.F.excBase_ValueError.init.plain _, codeAny_builtin PySem.F.excBase_ValueError.initEntry ?_⟩
  refine exc_init_tree (cls := .ref C) (t0 := t1) (dv := none) (c2 := .none) (c3 := .none) (b4 := .bool false) ho3 (by rw [sizeLine_eq]; simp) (fun h4 kk e4 t4 => ?_)
  have J := I3.write (h' := h4) (t' := s.toks + (ps.zip us).length + 1 + 1) (x := a) (e := a) (o := exo a C none) (by rw [ea]; exact True.intro) (.inl rfl) kk ⟨_, e4⟩ (exo_ok e4)
  have eu : upd H a (exo a C none) = H := by
    funext b
    by_cases hb : b = a
    · rw [hb, upd_same, ea]
    · rw [upd_ne hb]
  rw [eu] at J
  exact tail _ J
end
end Sim

/-! own exceptions: what the top's end says of them -/
namespace Sim
open PySem PySem.Spec PyProof.Rows L2 PySem.W PySem.Calls NdefX
def oexB (K : Frag) (C : Addr) : Bool := (match K.lookup C with
  | some ⟨.type "type", _, .cls cd, sl⟩ => (match cd.mro, sl.toList with
    | .ref C' :: bm, [_, _, _, _, some (.builtin n), _] => C' == C && n == "ValueError.__new__" && !cd.hasDel && PySem.HandSPX.refsVE bm && cd.hasDict
    | _, _ => false)
  | _ => false) && (decide (findIn K (.ref C) "__setattr__" = some (some (.builtin "object.__setattr__"))) && (decide (subIn K (.ref C) (.type "BaseException") = some true) && (decide (typeIn K (.ref C) = some (.type "type")) && keepIn K (.ref C))))
theorem oexB_ok {K : Frag} {C : Addr} (h : oexB K C = true) : OexC K C := by
  unfold oexB at h
  obtain ⟨q, h⟩ := He.ba h
  obtain ⟨h1, h⟩ := He.ba h
  obtain ⟨h2, h⟩ := He.ba h
  obtain ⟨h3, h4⟩ := He.ba h
  refine ⟨?_, of_decide_eq_true h1, of_decide_eq_true h2, of_decide_eq_true h3, h4⟩
  split at q
  · rename_i dd cd sl ho
    split at q
    · rename_i C' bm k0 k1 k2 k3 n k5 hm hs
      simp only [Bool.and_eq_true, beq_iff_eq, Bool.not_eq_true'] at q
      obtain ⟨⟨⟨⟨rfl, rfl⟩, hdel⟩, ht⟩, hdict⟩ := q
      obtain ⟨nm, bs, mro, ns, qn, hd, sn, sub, ab, col, del⟩ := cd
      dsimp only at hm hdel hdict
      subst hm hdel hdict
      have hsl : sl = #[k0, k1, k2, k3, some (.builtin "ValueError.__new__"), k5] := by
        rw [← Array.toArray_toList (xs := sl), hs]
      subst hsl
      exact ⟨nm, qn, ns, bs, bm, sn, sub, ab, col, dd, k0, k1, k2, k3, k5, ho, ht⟩
    · cases q
  · cases q
/-- an own __init__ of an exception class: what is looked at -/
abbrev FnY : Type := Option (Str × Arguments × FuncBody × Scope × Addr × List Str × Addr)
structure XcD where
  cls : Str
  qual : Str
  params : Arguments
  body : List Stmt
  scope : Scope
def xcAd (K : Frag) (x : Str) : Addr := He.ma K (He.ga K x) "__init__"
def fnY (K : Frag) (x : Str) : FnY := match K.lookup (xcAd K x) with
  | some ⟨_, _, .func fd, _⟩ => some (fd.qualname, fd.params, fd.body, fd.scope, fd.globals, fd.closure.map (·.1), fd.builtins)
  | _ => none
def XcD.val (d : XcD) : FnY := some (d.qual, d.params, .stmts d.body, d.scope, mainGlobals, ["__class__"], builtinsNs)
def XcD.fdB (K : Frag) (file : Str) (d : XcD) : Bool := match K.lookup (xcAd K d.cls) with
  | some ⟨_, _, .func fd, _⟩ => (match fd.closure with
    | [(_, cc)] => (match K.lookup cc with
      | some ⟨_, _, .cell (some (.ref D)), _⟩ => D == He.ga K d.cls
      | _ => false)
    | _ => false) && (match fd.code with
    | .ref cda => codeIn K (.ref cda) d.qual && (match K.lookup cda with
      | some ⟨_, _, .fields vs, _⟩ => (match (vs[2]? : Option Value) with
        | some (.str fl _) => fl == file
        | _ => false)
      | _ => false)
    | _ => false) && (decide (fd.name = ("__init__" : Str)) && (match fd.defaults with
    | .none => true
    | _ => false))
  | _ => false
def XcD.ok (K : Frag) (file : Str) (d : XcD) : Bool := d.fdB K file && (oexB K (He.ga K d.cls) && ((clsIn K (He.ga K d.cls)).isSome && (decide (mroIn K (He.ga K d.cls) (.ref (He.ga K d.cls)) = some true) &&
  (decide (nsIn K cStatics "thirdparty.any" = some none) && (decide (ks_superIn K (He.ga K d.cls) (He.ga K d.cls) "__init__" = some (some (.builtin "ValueError.__init__"))) && (decide (subIn K (.ref (He.ga K d.cls)) (.type "ValueError") = some true) &&
  (decide (findIn K (.ref (He.ga K d.cls)) "__init__" = some (some (.ref (xcAd K d.cls)))) && decide (typeIn K (.ref (xcAd K d.cls)) = some (.type "function")))))))))
/-- what is known of the class -/
structure XcK (P : Program) (K : Frag) (mg : Str → Option Value) (d : XcD) : Prop where
  ex : ∃ fd cc c, SupC P K mg (He.ga K d.cls) (xcAd K d.cls) fd ⟨"__init__", d.qual, d.params, d.body, d.scope, [("__class__", cc)], c⟩ ((d.params.posonlyargs ++ d.params.args).map (·.arg))
  oex : OexC K (He.ga K d.cls)
  ini : findIn K (.ref (He.ga K d.cls)) "__init__" = some (some (.ref (xcAd K d.cls)))
  ty : typeIn K (.ref (xcAd K d.cls)) = some (.type "function")
theorem XcD.known {P : Program} {K : Frag} {mg : Str → Option Value} {d : XcD} (e : fnY K d.cls = d.val) (c : d.ok K P.main.file = true) (hmg : mg "super" = none) (htop : (P.main.scope.names.lookup ("super" : Str)).isSome = false)
    (hks : d.scope.names.lookup ("super" : Str) = some .globalImplicit) (hkc : d.scope.names.lookup ("__class__" : Str) = some .free) {ar : Arg} {ars : List Arg} (hpa : d.params.posonlyargs ++ d.params.args = ar :: ars) (hka : d.scope.names.lookup ar.arg = some .local) : XcK P K mg d := by
  unfold XcD.ok at c
  obtain ⟨c0, c⟩ := He.ba c
  obtain ⟨c1, c⟩ := He.ba c
  obtain ⟨c2, c⟩ := He.ba c
  obtain ⟨c3, c⟩ := He.ba c
  obtain ⟨c4, c⟩ := He.ba c
  obtain ⟨c5, c⟩ := He.ba c
  obtain ⟨c6, c⟩ := He.ba c
  obtain ⟨c7, c8⟩ := He.ba c
  refine ⟨?_, oexB_ok c1, of_decide_eq_true c7, of_decide_eq_true c8⟩
  unfold XcD.fdB at c0
  unfold fnY at e
  cases q : K.lookup (xcAd K d.cls) with
  | none => rw [q] at c0; cases c0
  | some o =>
    obtain ⟨oc, od, dt, osl⟩ := o
    rw [q] at c0 e
    cases dt with
    | func fd =>
      obtain ⟨n1, n2, n3, n4, n5, n6, n7, n8, n9, n10, n11, n12, n13, n14, n15⟩ := fd
      have e2 : (some (n2, n3, n4, n5, n6, n7.map (·.1), n15) : FnY) = (some (d.qual, d.params, .stmts d.body, d.scope, mainGlobals, ["__class__"], builtinsNs) : FnY) := e
      simp only [Option.some.injEq, Prod.mk.injEq] at e2
      obtain ⟨h2, h3, h4, h5, h6, h7, h8⟩ := e2
      subst h2 h3 h4 h5 h6 h8
      dsimp only at c0
      obtain ⟨kab, kc⟩ := He.ba c0
      obtain ⟨kA, kB⟩ := He.ba kab
      obtain ⟨kc, kd⟩ := He.ba kc
      have kc := of_decide_eq_true kc
      subst kc
      clear kab c0
      have kd2 : n8 = Value.none := by
        cases n8 with
        | none => rfl
        | _ => cases kd
      subst kd2
      cases n7 with
      | nil => cases h7
      | cons p r =>
        cases r with
        | cons _ _ => simp at h7
        | nil =>
          obtain ⟨nm, cc⟩ := p
          have hn : nm = ("__class__" : Str) := by
            simp only [List.map_cons, List.map_nil, List.cons.injEq, and_true] at h7
            exact h7
          subst hn
          dsimp only at kA
          cases n13 with
          | ref cda =>
            dsimp only at kB
            obtain ⟨k4, k5⟩ := He.ba kB
            cases qc : K.lookup cc with
            | none => rw [qc] at kA; cases kA
            | some oc2 =>
              obtain ⟨a1, a2, a3, a4⟩ := oc2
              rw [qc] at kA
              cases a3 with
              | cell v =>
                cases v with
                | none => cases kA
                | some v =>
                  cases v with
                  | ref D =>
                    have hD : D = He.ga K d.cls := eq_of_beq kA
                    subst hD
                    cases qd : K.lookup cda with
                    | none => rw [qd] at k5; cases k5
                    | some od2 =>
                      obtain ⟨b1, b2, b3, b4⟩ := od2
                      rw [qd] at k5
                      cases b3 with
                      | fields vs =>
                        dsimp only at k5
                        cases qv : vs[2]? with
                        | none => rw [qv] at k5; cases k5
                        | some v2 =>
                          rw [qv] at k5
                          cases v2 with
                          | str fl tf =>
                            have hfl : fl = P.main.file := eq_of_beq k5
                            subst hfl
                            obtain ⟨cdD, hcd⟩ := Option.isSome_iff_exists.mp c2
                            exact ⟨_, cc, cda, ⟨oc, od, osl, n9, n10, n11, n12, n14, rfl, q⟩, k4, ⟨cc, a1, a2, a4, rfl, qc⟩, ⟨ar, ars.map (·.arg), by rw [hpa]; rfl, by rw [hpa]; rfl, hka⟩, ⟨b1, b2, vs, b4, P.main.file, tf, qd, qv, by simp⟩, ⟨cdD, hcd⟩,
                              of_decide_eq_true c3, hks, hkc, hmg, htop, of_decide_eq_true c4, of_decide_eq_true c5, of_decide_eq_true c6, oexB_ok c1⟩
                          | _ => cases k5
                      | _ => cases k5
                  | _ => cases kA
              | _ => cases kA
          | _ => cases kB
    | _ => cases c0
end Sim

/-! own exceptions raised: their mirrors and promises -/
namespace Sim
open PySem PySem.Spec PyProof.Rows L2 Evl NdefX
/-- an exception's field: data -/
inductive Xv where
  | int (i : Int)
  | str (s : Str)
deriving DecidableEq
def rX : Rep Xv := ⟨fun _ v x => match x with
  | .int i => v = .int i
  | .str s => v = .str s, fun {_ _ v x} _ h => by cases x <;> exact h⟩
structure Xn where
  cls : Str
  fs : List (Str × Xv)
/-- its dict at d -/
def Xat (G : Hp) (e : Xn) (d : Addr) : Prop := ∃ fs, G d = some (.xd fs) ∧ ∀ f x, e.fs.lookup f = some x → ∃ v, fs.lookup f = some v ∧ rX.r G v x
/-- what the __init__ of an own exception keeps: names the fields, in order -/
def spX (C : Addr) (names : List Str) : Sp := fun vs H Q _ => ∃ a ws, vs = .ref a :: ws ∧ ws.length = names.length ∧ H a = some (exo a C none) ∧
  ∀ dx, H dx = none → dx ≠ a → Q .non (upd (upd H dx (exd dx (names.zip ws).reverse)) a (exo a C (some dx)))
/-- may raise -/
def PX {ι α : Type} (K : PySem.W.Frag) (A : AR ι) (R : Rep α) (f : ι → Option (Xn ⊕ α)) : Sp := fun vs H Q E => ∃ G i r, Ex G H ∧ A.r G vs i ∧ f i = some r ∧
  (∀ e, r = .inl e → ∀ d H2 G2, Up G H G2 H2 → Xat G2 e d → E (.ref (He.ga K e.cls)) (some d) H2) ∧ (∀ x, r = .inr x → ∀ v H2 G2, Up G H G2 H2 → R.r G2 v x → Q v H2)
section
variable {K : PySem.W.Frag} {σ : L2.St} {G H G0 H0 : Hp} {ls : List Addr} {cs : Cs} {ta : TA} {ι : Type} {A : AR ι}
/-- the reading of raise C(args) -/
def tRs (t : L2.St → Hp → XK → Prop) (W : WX) : TS := fun _ σ H => t σ H fun cls d H' => W cls d σ H'
theorem x_raise {C : Addr} {names : List Str} {m : Option ι} {i : ι} {W : WX} {D : Ends} {tz : TS} (w : Wo G0 H0 ls G H cs) (ha : EA ta σ G H A m) (hm : m = some i)
    (hl : ∀ G vs, A.r G vs i → vs.length = names.length ∧ vs.length ≤ 1000)
    (k : ∀ vs H2 G2 d, Wo G0 H0 ls G2 H2 cs → A.r G2 vs i → Ex G G2 → G2 d = some (.xd (names.zip vs).reverse) → W (.ref C) (some d) σ H2) :
    tSeq (fun _ σ H => tMkO C (spX C names) [] ta σ H fun cls d H' => W cls d σ H') tz D σ H := by
  refine ha i hm H w.ex (Ex.refl _) _ fun vs H1 G1 u r => ?_
  obtain ⟨h1, h2⟩ := hl _ _ r
  refine ⟨h2, fun a na => ⟨a, vs, by rw [List.append_nil], h1, upd_same .., fun dx hdx hne => ⟨rfl, dx, (names.zip vs).reverse, upd_same .., ?_, ?_, ?_⟩⟩⟩
  · rw [upd_ne hne, upd_same]
  · rw [upd_ne hne] at hdx; exact hdx
  · have hdx' : H1 dx = none := by rw [upd_ne hne] at hdx; exact hdx
    have e : upd (del (upd (upd (upd H1 a (exo a C none)) dx (exd dx (names.zip vs).reverse)) a (exo a C (some dx))) a) dx (.xd (names.zip vs).reverse) = upd H1 dx (.xd (names.zip vs).reverse) := by
      funext b
      by_cases hb : b = dx
      · subst hb; rw [upd_same, upd_same]
      · rw [upd_ne hb, upd_ne hb]
        by_cases hba : b = a
        · subst hba; rw [del_same, na]
        · rw [del_ne hba, upd_ne hba, upd_ne hb, upd_ne hba]
    rw [e]
    have u2 := Up.lay (o := HO.xd (names.zip vs).reverse) u.gh hdx'
    have u3 := u.trans u2
    exact k vs _ _ dx ((w.up u).up u2) (A.mono u2.gg r) u3.gg (upd_same ..)
end
end Sim

/-! the __init__ of an own exception, walked -/
namespace Sim
open PySem PySem.Spec PyProof.Rows L2 Evl NdefX
/-- self.f = the i-th name, for each of these -/
def tFlds (K : PySem.W.Frag) : List (Str × Nat) → TS
  | [] => tNext
  | q :: r => tSeq (tOst K q.1 (tVar 0) (tVar q.2)) (tFlds K r)
section
variable {K : PySem.W.Frag} {σ : L2.St} {H : Hp} {a C dx : Addr} {D : Ends}
theorem flds_go (T : OexC K C) (ha : σ[0]? = some (some (.ref a))) (hne : dx ≠ a) : ∀ (r : List (Str × Nat × V)) (fs : List (Str × V)) (H : Hp), (∀ q ∈ r, PySem.W.findIn K (.ref C) q.1 = some none ∧ σ[q.2.1]? = some (some q.2.2)) →
    fs.length + r.length ≤ 900 → H a = some (exo a C (some dx)) → H dx = some (exd dx fs) → D.nx σ (upd H dx (exd dx ((r.map fun q => (q.1, q.2.2)).reverse ++ fs))) → tFlds K (r.map fun q => (q.1, q.2.1)) D σ H
  | [], fs, H, _, _, hA, hD, k => by
    have e : upd H dx (exd dx fs) = H := by
      funext b
      by_cases hb : b = dx
      · rw [hb, upd_same, hD]
      · rw [upd_ne hb]
    have k : D.nx σ (upd H dx (exd dx fs)) := k
    rw [e] at k
    exact k
  | (f, i, y) :: r, fs, H, hq, hl, hA, hD, k => by
    obtain ⟨h1, h2⟩ := hq _ (List.mem_cons_self ..)
    simp only [List.length_cons] at hl
    refine ⟨y, h2, .ref a, ha, a, C, rfl, T, h1, Or.inr ⟨dx, fs, hA, hD, by omega, ?_⟩⟩
    refine flds_go T ha hne r ((f, y) :: fs) _ (fun q h => hq q (List.mem_cons_of_mem _ h)) (by simp only [List.length_cons]; omega) ?_ (upd_same ..) ?_
    · rw [upd_ne (Ne.symm hne)]; exact hA
    · have e : upd (upd H dx (exd dx ((f, y) :: fs))) dx (exd dx ((r.map fun q => (q.1, q.2.2)).reverse ++ (f, y) :: fs)) = upd H dx (exd dx ((((f, i, y) :: r).map fun q => (q.1, q.2.2)).reverse ++ fs)) := by
        funext b
        by_cases hb : b = dx
        · rw [hb, upd_same, upd_same]; simp
        · rw [upd_ne hb, upd_ne hb, upd_ne hb]
      rw [e]
      exact k
theorem flds_all (T : OexC K C) (ha : σ[0]? = some (some (.ref a))) {q0 : Str × Nat × V} {r : List (Str × Nat × V)} (hq : ∀ q ∈ q0 :: r, PySem.W.findIn K (.ref C) q.1 = some none ∧ σ[q.2.1]? = some (some q.2.2)) (hl : r.length ≤ 800) (hA : H a = some (exo a C none))
    (k : ∀ dx, H dx = none → dx ≠ a → D.nx σ (upd (upd H dx (exd dx ((q0 :: r).map fun q => (q.1, q.2.2)).reverse)) a (exo a C (some dx)))) : tFlds K ((q0 :: r).map fun q => (q.1, q.2.1)) D σ H := by
  obtain ⟨f, i, y⟩ := q0
  obtain ⟨h1, h2⟩ := hq _ (List.mem_cons_self ..)
  refine ⟨y, h2, .ref a, ha, a, C, rfl, T, h1, Or.inl ⟨hA, fun dx hdx hne => ?_⟩⟩
  refine flds_go T ha hne r [(f, y)] _ (fun q h => hq q (List.mem_cons_of_mem _ h)) (by simp; omega) (upd_same ..) (by rw [upd_ne hne, upd_same]) ?_
  have e : upd (upd (upd H dx (exd dx [(f, y)])) a (exo a C (some dx))) dx (exd dx ((r.map fun q => (q.1, q.2.2)).reverse ++ [(f, y)])) = upd (upd H dx (exd dx (((f, i, y) :: r).map fun q => (q.1, q.2.2)).reverse)) a (exo a C (some dx)) := by
    funext b
    by_cases hb : b = dx
    · rw [hb, upd_same, upd_ne hne, upd_same]; simp
    · rw [upd_ne hb]
      by_cases hba : b = a
      · rw [hba, upd_same, upd_same]
      · rw [upd_ne hba, upd_ne hba, upd_ne hb, upd_ne hb]
  rw [e]
  exact k dx hdx hne
end
section
variable {CX : CXT} {P : Program} {w : World} {K : PySem.W.Frag} {mg : Str → Option Value} {base : Heap} {N ps : List Str} {F : NF} {C f : Addr} {fd : FuncData} {k : Nat} {t : Str} {rest : List Stmt} {p0 p1 p2 p3 p4 pc : Pos} {j : Nat} {pl : Sem Bool} {names : List Str} {fi : List (Str × Nat)}
theorem xinit (S : NScope N ps ["__class__"] F.scope) (Y : SupC P K mg C f fd F ps) (hbd : F.body = .Expr (.Call (.Attribute (.Call (.Name "super" p0) [] [] p1) "__init__" p2) [.Constant (.str t) j pc] [] p3) p4 :: rest)
    (hev : ∀ L : Addr, eval (.Call (.Attribute (.Call (.Name "super" p0) [] [] p1) "__init__" p2) [.Constant (.str t) j pc] [] p3) (envF F f L) = (do
      let ov ← attributeBase (.Call (.Name "super" p0) [] [] p1) "__init__" (envF F f L) (eval (.Call (.Name "super" p0) [] [] p1) (envF F f L))
      standAt p2.atName
      let (g, first) ← holding [ov] (getMethod ov "__init__" pl)
      callWith p3 g first (backTo p3 (starEach [.Constant (.str t) j pc] (envF F f L))) []))
    (hint : ∀ L : Addr, interactive (envF F f L) = false) (hno : ∀ f ∈ names, PySem.W.findIn K (.ref C) f = some none) (hps : ps.length = names.length + 1)
    (hr : ∀ (a : Addr) (ws : List V), ws.length = names.length → ∃ (q0 : Str × Nat × V) (r : List (Str × Nat × V)), r.length ≤ 800 ∧ ((q0 :: r).map fun q => (q.1, q.2.1)) = fi ∧ ((q0 :: r).map fun q => (q.1, q.2.2)) = names.zip ws ∧ ∀ q ∈ q0 :: r, q.1 ∈ names ∧ (startF N (.ref a :: ws) [none])[q.2.1]? = some (some q.2.2))
    (hrest : ∀ (A : Around) (outer : List Env) (s : Shared) (H : Hp) (E : XK), PSs (ncx CX P w K mg base N F f A outer s H E) rest (tFlds K fi)) :
    FnOk P w K mg base CX (k + 1) f fd ps (spX C names) := by
  refine fn_exc S Y hbd hev hint (fun vs H Q E h => ?_) (fun A outer s H vs Q E _ h => ?_)
  · obtain ⟨a, ws, rfl, h, _⟩ := h
    rw [List.length_cons, h, hps]
  · obtain ⟨a, ws, rfl, hl, hA, kk⟩ := h
    refine ⟨a, ws, rfl, hA, _, hrest A outer s H E, ?_⟩
    obtain ⟨q0, r, h1, h2, h3, h4⟩ := hr a ws hl
    rw [← h2]
    refine flds_all Y.ex (a := a) (by rfl) (fun q hq => ⟨hno _ (h4 q hq).1, (h4 q hq).2⟩) h1 hA (fun dx hdx hne => ?_)
    rw [h3]
    exact kk dx hdx hne
end
end Sim

/-! calls that may raise, at the caller's slots; try -/
namespace L2
open PySem PySem.Spec PyProof.Rows
section
variable {X : Cx} {CX : CXT} {k : Nat} {f C : Addr} {fd : FuncData} {ps : List Str} {sp : Sp} {E : St → XK} {x m : Str} {p pos apos : Pos} {e o : Expr} {es : List Expr} {ta : TE} {t : TA}
/-- o.m(e, ..), what is raised wished for at the slots -/
def tMethT (C : Addr) (m : Str) (sp : Sp) (E : St → XK) (to : TE) (t : TA) : TE := fun σ H Q => to σ H fun x H1 => ∃ a dx fs, x = .ref a ∧ H1 a = some (.ins C dx fs) ∧ fs.lookup m = none ∧ t σ H1 fun vs H2 => sp (.ref a :: vs) H2 Q (E σ)
theorem pe_methT {pl : Sem Bool} (he : PE X o ta) (c : Cls X.K C) (hm : Meth X.K C m f) (F : FnOk X.prog X.w X.K X.mg X.base CX k f fd ps sp) (hr : Room k X.A) (hb : Binds X.K fd ps []) (hx : ∀ σ, PassesAt CX X σ (E σ)) (ha : PA X (e :: es) t)
    (hst : starEach (e :: es) X.env = (false, eval e X.env) :: starEach es X.env := by rfl) (hpl : (backTo pos (starEach es X.env)).any (·.1) = false := by rfl)
    (ht : eval (.Call (.Attribute o m apos) (e :: es) [] pos) X.env = (do
      let ov ← eval o X.env
      standAt apos.atName
      let (f, first) ← holding [ov] (getMethod ov m pl)
      callWith pos f first (backTo pos (starEach (e :: es) X.env)) (backToKw pos (keywordEach [] X.env))) := by rfl) :
    PE X (.Call (.Attribute o m apos) (e :: es) [] pos) (tMethT C m sp E ta t) := by
  refine ⟨fun pins s σ H Q I h => ?_⟩
  refine PySem.W.methodCall_KW (pl := pl) (thn (he.run pins s σ H _ I h) fun u s1 ⟨x, H1, I1, rx, a, dx, fs, ex, ea, l, q⟩ => ?_) ht
  subst ex
  obtain rfl : u = Value.ref a := rx
  refine getmeth_ok I1 ea c hm l ?_
  refine PySem.W.callWith_K (first := [.ref a]) (h₀ := X.base) I.ok.mod.kin hm.kp (thn (ha.run pos pins s1 σ H1 _ I1 q) fun us s2 ⟨vs, H2, I2, r, q2⟩ => ⟨I2.kIn, ?_⟩) hst hpl
  exact run_fnS (us := .ref a :: us) (vs := .ref a :: vs) F hr hb (hx σ) I2 (.cons rfl r) q2
end
/-- several clauses, each with a name -/
def wManyA (K : PySem.W.Frag) (Wout : WX) (D : Ends) : List (Value × Option Nat × (Addr → Value → Option Addr → TS)) → WX
  | [] => Wout
  | (c, some i, ts) :: r => fun cls d σ H => ∃ b, PySem.W.exmOne K cls c = some b ∧ (b = true → ∀ a, H a = none → ts a cls d { nx := fun σ' H' => D.nx (σ'.set i none) H', rt := D.rt, bk := fun σ' H' => D.bk (σ'.set i none) H', ct := fun σ' H' => D.ct (σ'.set i none) H' } (σ.set i (some (.ref a))) H) ∧
      (b = false → wManyA K Wout D r cls d σ H)
  | (c, none, ts) :: r => fun cls d σ H => ∃ b, PySem.W.exmOne K cls c = some b ∧ (b = true → ∀ a, H a = none → ts a cls d D σ H) ∧ (b = false → wManyA K Wout D r cls d σ H)
end L2
namespace Sim
open PySem PySem.Spec PyProof.Rows L2 Evl
section
variable {K : PySem.W.Frag} {σ : L2.St} {G H W G0 H0 : Hp} {ls : List Addr} {cs : Cs} {ta : TA} {to te : TE} {ι α β γ : Type} {A : AR ι} {R : Rep α} {S : Rep β} {T : Rep γ} {t u : TS} {D : Ends}
/-- a reading that may raise -/
def EX (K : PySem.W.Frag) (te : TE) (σ : L2.St) (G W : Hp) (R : Rep α) (m : Option (Xn ⊕ α)) (Wx : XK) : Prop :=
  ∀ r, m = some r → ∀ H, Ex G H → Ex W H → ∀ Q : VK, (∀ e, r = .inl e → ∀ d H2 G2, Up G H G2 H2 → Xat G2 e d → Wx (.ref (He.ga K e.cls)) (some d) H2) → (∀ x, r = .inr x → ∀ v H2 G2, Up G H G2 H2 → R.r G2 v x → Q v H2) → te σ H Q
theorem Xat.mono {G G2 : Hp} {e : Xn} {d : Addr} (x : Ex G G2) (h : Xat G e d) : Xat G2 e d := by
  obtain ⟨fs, h1, h2⟩ := h
  exact ⟨fs, x d _ h1, fun f y hy => by obtain ⟨v, h3, h4⟩ := h2 f y hy; exact ⟨v, h3, rX.mono x h4⟩⟩
theorem ex_call {f : ι → Option (Xn ⊕ γ)} {ta : TA} {m : Option ι} {Wx : L2.St → XK} (ha : EA ta σ G W A m) : EX K (tCallS (PX K A T f) Wx ta) σ G W T (m >>= f) (Wx σ) := fun z hz H e e' Q qx q => by
  obtain ⟨i, hi, hz⟩ := bindS hz
  refine ha i hi H e e' _ fun vs H1 G1 u1 r1 => ?_
  exact ⟨G1, i, z, u1.gh, r1, hz, fun x hx d H2 G2 u2 r2 => qx x hx d H2 G2 (u1.trans u2) r2, fun x hx v H2 G2 u2 r2 => q x hx v H2 G2 (u1.trans u2) r2⟩
theorem ex_meth {C : Addr} {ns : List Str} {fl : α → List Pd} {m : Option α} {mi : Option ι} {me : Str} {f : α × ι → Option (Xn ⊕ γ)} {ta : TA} {Wx : L2.St → XK} (h : E to σ G W (rObj C ns fl) m) (ha : EA ta σ G W A mi) (hi : ns.contains me = false) :
    EX K (tMethT C me (PX K (aC (rObj C ns fl) A) T f) Wx to ta) σ G W T (m >>= fun o => mi >>= fun i => f (o, i)) (Wx σ) := fun z hz H e e' Q qx q => by
  obtain ⟨x, hx, hz⟩ := bindS hz
  obtain ⟨y, hy, hz⟩ := bindS hz
  refine h x hx H e e' _ fun v H1 G1 u r => ?_
  obtain ⟨a, dx, fs, rfl, h2, h3⟩ := r
  refine ⟨a, dx, fs, rfl, u.gh a _ h2, look_no h3.1 hi, ?_⟩
  refine (ha.mono u.gg (e'.trans u.hh)) y hy H1 u.gh (Ex.refl _) _ fun vs H3 G3 u3 r3 => ?_
  exact ⟨G3, (x, y), z, u3.gh, ⟨.ref a, vs, rfl, ⟨a, dx, fs, rfl, u3.gg a _ h2, h3.mono u3.gg⟩, r3⟩, hz, fun x hx d H4 G4 u4 r4 => qx x hx d H4 G4 ((u.trans u3).trans u4) r4, fun x hx v H4 G4 u4 r4 => q x hx v H4 G4 ((u.trans u3).trans u4) r4⟩
/-- f(..), alone -/
theorem x_callX {tz : TS} {m : Option (Xn ⊕ α)} {r : Xn ⊕ α} {Wx : XK} (w : Wo G0 H0 ls G H cs) (h : EX K te σ G H R m Wx) (hm : m = some r) (kx : ∀ e, r = .inl e → ∀ d H2 G2, Wo G0 H0 ls G2 H2 cs → Ex G G2 → Xat G2 e d → Wx (.ref (He.ga K e.cls)) (some d) H2)
    (k : ∀ x, r = .inr x → ∀ H2 G2, Wo G0 H0 ls G2 H2 cs → Ex G G2 → tz D σ H2) : tSeq (tDrop te) tz D σ H :=
  h r hm H w.ex (Ex.refl _) (fun _ H1 => tz D σ H1) (fun e he d H2 G2 u x => kx e he d H2 G2 (w.up u) u.gg x) fun x hx v H2 G2 u _ => k x hx H2 G2 (w.up u) u.gg
/-- x = f(..) -/
theorem x_setX {tz : TS} {i : Nat} {m : Option (Xn ⊕ α)} {r : Xn ⊕ α} {Wx : XK} (w : Wo G0 H0 ls G H cs) (h : EX K te σ G H R m Wx) (hm : m = some r) (kx : ∀ e, r = .inl e → ∀ d H2 G2, Wo G0 H0 ls G2 H2 cs → Ex G G2 → Xat G2 e d → Wx (.ref (He.ga K e.cls)) (some d) H2)
    (k : ∀ x, r = .inr x → ∀ v H2 G2, Wo G0 H0 ls G2 H2 cs → Ex G G2 → R.r G2 v x → tz D (σ.set i (some v)) H2) : tSeq (tAsg te (gName i)) tz D σ H :=
  h r hm H w.ex (Ex.refl _) (fun x H1 => gName i x σ H1 (tz D)) (fun e he d H2 G2 u x => kx e he d H2 G2 (w.up u) u.gg x) fun x hx v H2 G2 u y => k x hx v H2 G2 (w.up u) u.gg y
/-- return f(..) -/
theorem x_retX {tz : TS} {m : Option (Xn ⊕ α)} {r : Xn ⊕ α} {Wx : XK} (w : Wo G0 H0 ls G H cs) (h : EX K te σ G H R m Wx) (hm : m = some r) (kx : ∀ e, r = .inl e → ∀ d H2 G2, Wo G0 H0 ls G2 H2 cs → Ex G G2 → Xat G2 e d → Wx (.ref (He.ga K e.cls)) (some d) H2)
    (k : ∀ x, r = .inr x → ∀ v H2 G2, Wo G0 H0 ls G2 H2 cs → Ex G G2 → R.r G2 v x → D.rt v H2) : tSeq (tRet te) tz D σ H :=
  h r hm H w.ex (Ex.refl _) D.rt (fun e he d H2 G2 u x => kx e he d H2 G2 (w.up u) u.gg x) fun x hx v H2 G2 u y => k x hx v H2 G2 (w.up u) u.gg y
/-- e.f of the caught exception -/
theorem e_xf {a d : Addr} {e : Xn} {f : Str} {i : Nat} {y : Int} (hs : σ[i]? = some (some (.ref a))) (hx : Xat G e d) (hf : e.fs.lookup f = some (.int y)) : E (tXf a (.ref (He.ga K e.cls)) (some d) (He.ga K e.cls) f (tVar i)) σ G W rI (some y) := fun z hz H ee e' Q q => by
  cases hz
  obtain ⟨fs, h1, h2⟩ := hx
  obtain ⟨v, h3, h4⟩ := h2 f _ hf
  have h4 : v = .int y := h4
  subst h4
  exact ⟨.ref a, hs, rfl, rfl, d, fs, .int y, rfl, ee d _ h1, h3, q _ H G (Up.refl ee) rfl⟩
theorem e_xfS {a d : Addr} {e : Xn} {f : Str} {i : Nat} {y : Str} (hs : σ[i]? = some (some (.ref a))) (hx : Xat G e d) (hf : e.fs.lookup f = some (.str y)) : E (tXf a (.ref (He.ga K e.cls)) (some d) (He.ga K e.cls) f (tVar i)) σ G W rS (some y) := fun z hz H ee e' Q q => by
  cases hz
  obtain ⟨fs, h1, h2⟩ := hx
  obtain ⟨v, h3, h4⟩ := h2 f _ hf
  have h4 : v = .str y := h4
  subst h4
  exact ⟨.ref a, hs, rfl, rfl, d, fs, .str y, rfl, ee d _ h1, h3, q _ H G (Up.refl ee) rfl⟩
end
end Sim

/-! try with several clauses, each with or without a name -/
namespace L2
open PySem PySem.Spec PyProof.Rows
/-- one clause: its class, the slot of its name, its suite -/
abbrev Cla : Type := Value × Option Nat × (Addr → Value → Option Addr → TS)
def SuOk (X : Cx) (su : List Stmt) (ts : Addr → Value → Option Addr → TS) : Prop := ∀ (a : Addr) (oe : Obj) (cls : Value) (d : Option Addr) (pn : List (Addr × Obj)), Zc cls d oe → (∃ vs, oe.data = .fields vs) → PSs (X.suite a ((a, oe) :: pn)) su (ts a cls d)
inductive HdsA (X : Cx) : List ExceptHandler → List Cla → Prop
  | nil : HdsA X [] []
  | plain {x : Str} {c : Value} {ts} {b₀ : Stmt} {su : List Stmt} {np p : Pos} {hds l} (hc : Names X x c) (hsu : SuOk X (b₀ :: su) ts) (r : HdsA X hds l) : HdsA X (.ExceptHandler (some (.Name x np)) none (b₀ :: su) p :: hds) ((c, none, ts) :: l)
  | as_ {x n : Str} {i : Nat} {c : Value} {ts} {b₀ : Stmt} {su : List Stmt} {np p : Pos} {hds l} (hc : Names X x c) (hi : X.N[i]? = some n) (hln : X.env.kindOf n = some .local) (hsu : SuOk X (b₀ :: su) ts) (r : HdsA X hds l) :
      HdsA X (.ExceptHandler (some (.Name x np)) (some n) (b₀ :: su) p :: hds) ((c, some i, ts) :: l)
/-- the exception at a is in the air over the state s, sI is the state without it -/
structure Aloft (X : Cx) (pins : List (Addr × Obj)) (σ : L2.St) (H : Hp) (cls : Value) (d : Option Addr) (a : Addr) (B : Heap) (sI s : Shared) : Prop where
  inv : Inv X pins σ H sI
  nb : ∀ b o, sI.heap.get? b = some o → b ∉ frs X.stack → B.get? b = some o
  up : sI.heap.UpToSlots s.heap
  fl : HandSPX.FlyingZ B X.stack a (Zc cls d) s.heap
  na : H a = none
  os : s.os = sI.os
  ag : AllBare s.gens
section
variable {X : Cx} {pins : List (Addr × Obj)} {σ : L2.St} {H : Hp} {cls : Value} {d : Option Addr} {a : Addr} {B : Heap} {sI s : Shared}
/-- seen from within a suite -/
theorem Aloft.within (A : Aloft X pins σ H cls d a B sI s) (hs : X.stack = X.env :: X.outer) (hf : X.env.frame = some X.env.locals) :
    ∃ oe, s.heap.get? a = some oe ∧ Zc cls d oe ∧ (∃ vs, oe.data = .fields vs) ∧ Inv X pins σ H s ∧ Inv (X.suite a ((a, oe) :: (X.pn ++ pins))) [] σ H s := by
  obtain ⟨oe, vs, h1, h2, h3⟩ := A.fl.there
  have J : Inv X pins σ H s := A.inv.landed A.nb A.fl.1 A.up A.os A.ag
  have out : a ∉ frs X.stack := fun hm => by
    obtain ⟨_, o, ho, hn⟩ := A.fl.2.2.1.mem hm
    rw [h1] at ho
    cases ho
    exact hn _ h3
  rw [hs] at out
  refine ⟨oe, h1, h2, ⟨vs, h3⟩, J, J.suite h1 h3 A.na (fun z => out ?_) (fun hm => out ?_)⟩
  · exact List.mem_filterMap.mpr ⟨X.env, List.mem_cons_self, by rw [hf, z]⟩
  · obtain ⟨e, he, q⟩ := List.mem_filterMap.mp hm
    exact List.mem_filterMap.mpr ⟨e, List.mem_cons_of_mem _ he, q⟩
/-- no clause is left -/
theorem Aloft.pass {Wout : WX} {Q : Flow → Shared → Prop} (A : Aloft X pins σ H cls d a B sI s) (hs : X.stack = X.env :: X.outer) (hf : X.env.frame = some X.env.locals) (tk : Takes X Wout) (w : Wout cls d σ H) :
    wpAny (model X.prog X.w) X.A (handleBy (.ref a) X.env []) Q X.xe s := by
  have fl := A.fl
  obtain ⟨_, _, _, oe, vs, T, oT, ts, h1, h2, h3, h4, _⟩ := id fl
  refine wpAny_handleBy_nil ?_
  unfold PySem.passOn
  refine wpAny_bind (wpAny_field h1 h3 h4 ?_)
  rw [if_neg (show ¬ ((Value.ref T == Value.none) = true) from by simp)]
  have last : wpAny (model X.prog X.w) X.A (setFlight (.ref a) X.env.frame) (fun _ s4 => wpAny (model X.prog X.w) X.A (throw (.ref a) : Sem Flow) Q X.xe s4) X.xe s := by
    rw [hf]
    rw [hs] at fl
    exact HandSPX.setFlight_upZ fl fun h4 hh up => wpAny_throw (tk _ _ ⟨a, B, sI, pins, σ, H, cls, d, rfl, A.inv, A.nb, A.up.trans up, .inr (.inr (by rw [hs]; exact hh)), A.na, A.os, A.ag, w⟩)
  first
    | exact wpAny_bind (wpAny_pure (wpAny_bind last))
    | exact wpAny_bind last
/-- the clauses, one after the other -/
theorem Aloft.go {Wout : WX} {D : Ends} (A : Aloft X pins σ H cls d a B sI s) (ok : X.Ok) (hN : X.N.Nodup) (hs : X.stack = X.env :: X.outer) (hf : X.env.frame = some X.env.locals) (tk : Takes X Wout) {hds : List ExceptHandler} {l : List Cla}
    (hk : HdsA X hds l) : wManyA X.K Wout D l cls d σ H → wpAny (model X.prog X.w) X.A (handleBy (.ref a) X.env hds) (SP X pins D) X.xe s := by
  obtain ⟨oe, h1, h2, _, J, S⟩ := A.within hs hf
  have ask : ∀ {x : Str} {c : Value} {np : Pos} {Q : Value → Shared → Prop} {E : Value → Shared → Prop}, Names X x c → Q c s → wpAny (model X.prog X.w) (X.A.mark (some (.ref a))) (eval (.Name x np) X.env) Q E s := fun {x c np Q E} hc q => by
    obtain ⟨hg, hd, hm | ⟨hm, hv, hn⟩⟩ := hc
    · exact ld_glob (X := X.suite a ((a, oe) :: (X.pn ++ pins))) S hg hm q hd
    · exact ld_blt (X := X.suite a ((a, oe) :: (X.pn ++ pins))) S hg hm hv q hn hd
  have kind : PySem.W.Looks (model X.prog X.w) s.heap (typeOf (.ref a)) cls := fun A Q E s k q => wpAny_typeOf_ref (k _ _ h1) (by rw [h2.1]; exact q)
  induction hk with
  | nil => exact fun w => A.pass hs hf tk w
  | @plain x c ts b₀ su np p hds l hc hsu r ih =>
    rintro ⟨b, hb, yes, no⟩
    refine wpAny_handleBy_cons (codeAny_handlers_test ?_) (by intro q; cases q)
    refine ask hc ((PySem.W.exm_one (M := model X.prog X.w) J.kIn kind hb).here ?_)
    cases b with
    | false => exact ih (no rfl)
    | true =>
      refine codeAny_handlers_suite ?_
      have fl := A.fl
      rw [hs] at fl
      refine HandSPX.lands_againZ fl fun h4 fl4 up4 => ?_
      have A4 : Aloft X pins σ H cls d a B sI { s with heap := h4 } := ⟨A.inv, A.nb, A.up.trans up4, by rw [hs]; exact fl4, A.na, A.os, A.ag⟩
      obtain ⟨oe4, _, z4, f4, _, S4⟩ := A4.within hs hf
      refine wpAny_mono ((hsu a oe4 cls d _ z4 f4).run [] _ _ H _ S4 (yes rfl a A.na)) (fun f s6 hsp => ?_) (fun _ _ z => False.elim z)
      cases f with
      | ret u => obtain ⟨v, σ6, H6, S6, r6, q⟩ := hsp; exact ⟨v, σ6, H6, S6.unsuite ok, r6, q⟩
      | next => obtain ⟨σ6, H6, S6, q⟩ := hsp; exact ⟨σ6, H6, S6.unsuite ok, q⟩
      | brk => obtain ⟨σ6, H6, S6, q⟩ := hsp; exact ⟨σ6, H6, S6.unsuite ok, q⟩
      | cont => obtain ⟨σ6, H6, S6, q⟩ := hsp; exact ⟨σ6, H6, S6.unsuite ok, q⟩
  | @as_ x n i c ts b₀ su np p hds l hc hi hln hsu r ih =>
    rintro ⟨b, hb, yes, no⟩
    refine wpAny_handleBy_cons (codeAny_handlers_test ?_) (by intro q; cases q)
    refine ask hc ((PySem.W.exm_one (M := model X.prog X.w) J.kIn kind hb).here ?_)
    cases b with
    | false => exact ih (no rfl)
    | true =>
      refine codeAny_handlers_suite_as ?_
      have fl := A.fl
      rw [hs] at fl
      refine HandSPX.lands_againZ fl fun h4 fl4 up4 => ?_
      have A4 : Aloft X pins σ H cls d a B sI { s with heap := h4 } := ⟨A.inv, A.nb, A.up.trans up4, by rw [hs]; exact fl4, A.na, A.os, A.ag⟩
      obtain ⟨oe4, _, z4, f4, _, S4⟩ := A4.within hs hf
      refine store_ok (X := X.suite a ((a, oe4) :: (X.pn ++ pins))) (v := .ref a) S4 hN hi (.inl hln) rfl (fun s5 S5 => ?_) (.inr hln)
      refine wpAny_mono ((hsu a oe4 cls d _ z4 f4).run [] s5 _ H _ S5 (yes rfl a A.na)) (fun f s6 hsp => ?_) (fun _ _ z => False.elim z)
      have off : ∀ {σ6 : L2.St} {H6 : Hp} {Q : Shared → Prop}, Inv (X.suite a ((a, oe4) :: (X.pn ++ pins))) [] σ6 H6 s6 → (∀ s7, Inv X pins (σ6.set i none) H6 s7 → Q s7) →
          wpAny (model X.prog X.w) X.A (do bindName X.env n .none; unbindBehindTheSuite X.env n p) (fun _ s7 => Q s7) X.xe s6 := fun S6 k => gone_ok (S6.unsuite ok) hN hi hln k
      cases f with
      | ret u => obtain ⟨v, σ6, H6, S6, r6, q⟩ := hsp; exact off S6 fun s7 J7 => ⟨v, _, H6, J7, r6, q⟩
      | next => obtain ⟨σ6, H6, S6, q⟩ := hsp; exact off S6 fun s7 J7 => ⟨_, H6, J7, q⟩
      | brk => obtain ⟨σ6, H6, S6, q⟩ := hsp; exact off S6 fun s7 J7 => ⟨_, H6, J7, q⟩
      | cont => obtain ⟨σ6, H6, S6, q⟩ := hsp; exact off S6 fun s7 J7 => ⟨_, H6, J7, q⟩
end
section
variable {X : Cx} {body : List Stmt} {h₀ : ExceptHandler} {hds : List ExceptHandler} {l : List Cla} {pos : Pos} {tb : WX → TS} {Wout : WX}
theorem ps_tryA (hN : X.N.Nodup) (hs : X.stack = X.env :: X.outer) (hf : X.env.frame = some X.env.locals) (tk : Takes X Wout)
    (hb : ∀ (W : WX) (pn : List (Addr × Obj)) (xe : Value → Shared → Prop), Takes (X.tr pn xe) W → PassesOwn (model X.prog X.w) X.A X.env xe → PSs (X.tr pn xe) body (tb W))
    (hh : HdsA X (h₀ :: hds) l) : PS X (.Try body (h₀ :: hds) [] [] pos) (fun D σ H => tb (wManyA X.K Wout D l) D σ H) := by
  refine ⟨fun pins s σ H D I h => wpAny_Try_except ?_⟩
  have ok := I.ok
  refine wpAny_mono ((hb _ (X.pn ++ pins) (fun e s₁ => wpAny (model X.prog X.w) X.A (noteFrame e X.env) (fun _ s₂ => wpAny (model X.prog X.w) X.A (setFlight e none) (fun _ s₃ =>
    wpAny (model X.prog X.w) X.A (handleBy e X.env (h₀ :: hds)) (SP X pins D) X.xe s₃) X.xe s₂) X.xe s₁) (fun u s' xx => ?_) PassesOwn.looking).run [] s σ H D (I.toTry _) h) (fun f s1 hsp => ?_) (fun e s1 he => he)
  · obtain ⟨a, B, sI, pins', σ', H', cls, d, rfl, J, nb, up, sky, na, os, ag, w⟩ := xx
    have sky' : Sky B (X.env :: X.outer) a (Zc cls d) X.env.locals s'.heap := by rw [← hs]; exact sky
    refine Sky.land Zc.steady (by rw [ok.frames, hs]) hf sky' fun h3 fl3 up3 => ?_
    exact Aloft.go (s := { s' with heap := h3 }) ⟨J.ofTry ok, nb, up.trans up3, by rw [hs]; exact fl3, na, os, ag⟩ ok hN hs hf tk hh w
  · cases f with
    | ret u => obtain ⟨v, σ', H', J, r, q⟩ := hsp; exact ⟨v, σ', H', J.ofTry ok, r, q⟩
    | next => obtain ⟨σ', H', J, q⟩ := hsp; exact wpAny_execs_nil ⟨σ', H', J.ofTry ok, q⟩
    | brk => obtain ⟨σ', H', J, q⟩ := hsp; exact ⟨σ', H', J.ofTry ok, q⟩
    | cont => obtain ⟨σ', H', J, q⟩ := hsp; exact ⟨σ', H', J.ofTry ok, q⟩
end
end L2

/-! the hook with own exceptions -/
namespace Sim
open PySem PySem.Spec PyProof.Rows L2 Evl
/-- the property f of the class C, its place, its getter -/
def prP (K : PySem.W.Frag) (C f : Str) : Addr := He.ma K (He.ga K C) f
def prG (K : PySem.W.Frag) (C f : Str) : Addr := match PySem.W.recIn K (prP K C f) "property" with
  | some (.ref g :: _) => g
  | _ => 0
def propB (C f : Str) (K : PySem.W.Frag) : Bool := decide (PySem.W.findIn K (.ref (He.ga K C)) f = some (some (.ref (prP K C f)))) && (decide (PySem.W.specialIn K (.ref (prP K C f)) "__get__" = some (some (.builtin "property.__get__"))) &&
  (decide (PySem.W.takesIn K (.ref (prP K C f)) = some true) && (match PySem.W.recIn K (prP K C f) "property" with
    | some (.ref _ :: _) => true
    | _ => false)))
theorem propB_ok {C f : Str} {K : PySem.W.Frag} (h : propB C f K = true) : PropOf K (He.ga K C) f (prP K C f) (prG K C f) := by
  obtain ⟨h1, h⟩ := He.ba h
  obtain ⟨h2, h⟩ := He.ba h
  obtain ⟨h3, h4⟩ := He.ba h
  refine ⟨of_decide_eq_true h1, of_decide_eq_true h2, of_decide_eq_true h3, ?_⟩
  unfold prG
  cases e : PySem.W.recIn K (prP K C f) "property" with
  | none => rw [e] at h4; cases h4
  | some l =>
    rw [e] at h4
    cases l with
    | nil => cases h4
    | cons v r =>
      cases v with
      | ref g => exact ⟨r, rfl⟩
      | _ => cases h4
/-- a property's getter: a def -/
structure GeD where
  cls : Str
  prop : Str
  qual : Str
  params : Arguments
  body : List Stmt
  scope : Scope
def fnG (K : PySem.W.Frag) (C f : Str) : He.FnW := match K.lookup (prG K C f) with
  | some ⟨_, _, .func fd, _⟩ => some (fd.name, fd.qualname, fd.params, fd.body, fd.scope, fd.globals, fd.closure, fd.builtins)
  | _ => none
def GeD.val (d : GeD) : He.FnW := some (d.prop, d.qual, d.params, .stmts d.body, d.scope, mainGlobals, [], builtinsNs)
def GeD.ok (K : PySem.W.Frag) (d : GeD) : Bool := propB d.cls d.prop K && (PySem.W.keepIn K (.ref (prG K d.cls d.prop)) && (match K.lookup (prG K d.cls d.prop) with
  | some ⟨_, _, .func fd, _⟩ => PySem.W.codeIn K fd.code d.qual && (He.dflB K fd.defaults [] && He.kwdB K fd.kwdefaults [])
  | _ => false))
theorem GeD.funD {K : PySem.W.Frag} {d : GeD} (e : fnG K d.cls d.prop = d.val) (c : d.ok K = true) : ∃ fd, FunD K d.prop d.qual d.params d.body d.scope [] [] (prG K d.cls d.prop) fd := by
  obtain ⟨_, c⟩ := He.ba c
  obtain ⟨kp, c2⟩ := He.ba c
  unfold fnG at e
  cases q : K.lookup (prG K d.cls d.prop) with
  | none => rw [q] at c2; cases c2
  | some o =>
    obtain ⟨oc, od, dt, osl⟩ := o
    rw [q] at c2 e
    cases dt with
    | func fd =>
      obtain ⟨n1, n2, n3, n4, n5, n6, n7, n8, n9, n10, n11, n12, n13, n14, n15⟩ := fd
      have e2 : (some (n1, n2, n3, n4, n5, n6, n7, n15) : He.FnW) = (some (d.prop, d.qual, d.params, .stmts d.body, d.scope, mainGlobals, [], builtinsNs) : He.FnW) := e
      simp only [Option.some.injEq, Prod.mk.injEq] at e2
      obtain ⟨h1, h2, h3, h4, h5, h6, h7, h8⟩ := e2
      subst h1 h2 h3 h4 h5 h6 h7 h8
      obtain ⟨k1, k2⟩ := He.ba (show (PySem.W.codeIn K n13 d.qual && (He.dflB K n8 [] && He.kwdB K n9 [])) = true from c2)
      obtain ⟨k3, k4⟩ := He.ba k2
      exact ⟨_, ⟨oc, od, n8, n9, n10, n11, n12, n13, n14, osl, rfl, q, k1, He.dflB_ok k3, He.kwdB_ok k4⟩, kp⟩
    | _ => cases c2
abbrev AlX : Type := He.AlD × Bool × List FnY × List He.FnW
def obsX (fa : List He.Fa) (fn : List He.DefD) (ex : List (PySem.W.Frag → Bool)) (xs : List XcD) (gs : List GeD) (file : Str) (K : PySem.W.Frag) : AlX := (He.obsD fa fn K, (ex.all fun e => e K) && ((xs.all fun d => d.ok K file) && gs.all fun d => d.ok K), (xs.map fun d => fnY K d.cls), gs.map fun d => fnG K d.cls d.prop)
def obsXG (n : Nat) (fa : List He.Fa) (fn : List He.DefD) (ex : List (PySem.W.Frag → Bool)) (xs : List XcD) (gs : List GeD) (file : Str) (g : Addr → Option Obj) : AlX := obsX fa fn ex xs gs file (He.frG g (cStatics :: He.asD g n))
structure SaysX (fa : List He.Fa) (fn : List He.DefD) (ex : List (PySem.W.Frag → Bool)) (xs : List XcD) (gs : List GeD) (file : Str) (K : PySem.W.Frag) : Prop where
  d : He.SaysD fa fn K
  x : ((ex.all fun e => e K) && ((xs.all fun d => d.ok K file) && gs.all fun d => d.ok K)) = true
  y : (xs.map fun d => fnY K d.cls) = xs.map XcD.val
  g : (gs.map fun d => fnG K d.cls d.prop) = gs.map GeD.val
def hookX (n : Nat) (fa : List He.Fa) (fn : List He.DefD) (ex : List (PySem.W.Frag → Bool)) (xs : List XcD) (gs : List GeD) (file : Str) : PySem.W.Hook where
  α := AlX
  obs := fun s => obsXG n fa fn ex xs gs file s.heap.get?
  val := fun _ => (He.valD fn, true, xs.map XcD.val, gs.map GeD.val)
  says := fun _ h => ∃ K : PySem.W.Frag, K.In h ∧ SaysX fa fn ex xs gs file K
  of := fun _ _ e => ⟨_, He.frG_in, congrArg (fun z : AlX => z.1) e, congrArg (fun z : AlX => z.2.1) e, congrArg (fun z : AlX => z.2.2.1) e, congrArg (fun z : AlX => z.2.2.2) e⟩
  keeps := fun _ _ _ ⟨K, hK, c⟩ k => ⟨K, PySem.W.Frag.In.keeps hK k, c⟩
theorem obsXG_eq {n : Nat} {fa : List He.Fa} {fn : List He.DefD} {ex : List (PySem.W.Frag → Bool)} {xs : List XcD} {gs : List GeD} {file : Str} {g : Addr → Option Obj} {s : Shared} (h : ∀ a, g a = s.heap.get? a) : obsXG n fa fn ex xs gs file g = (hookX n fa fn ex xs gs file).obs s := by
  have e : g = s.heap.get? := funext h
  rw [e] <;> rfl
structure TxX (fa : List He.Fa) (fn : List He.DefD) (es : List (PySem.W.Frag → Bool)) (xs : List XcD) (gs : List GeD) (file : Str) (K : PySem.W.Frag) (mg : Str → Option Value) : Prop extends TxE fa fn es K mg where
  xo : (xs.all fun d => d.ok K file) = true
  xv : (xs.map fun d => fnY K d.cls) = xs.map XcD.val
  go : (gs.all fun d => d.ok K) = true
  gv : (gs.map fun d => fnG K d.cls d.prop) = gs.map GeD.val
section
variable {fa : List He.Fa} {fn : List He.DefD} {es : List (PySem.W.Frag → Bool)} {xs : List XcD} {gs : List GeD} {file : Str} {K : PySem.W.Frag} {mg : Str → Option Value}
theorem TxX.mk' {h : Heap} (KX : K.In h) (G : h.Ns mainGlobals mg) (c : SaysX fa fn es xs gs file K) : TxX fa fn es xs gs file K mg := by
  obtain ⟨h1, h2⟩ := He.ba c.x
  obtain ⟨h2, h3⟩ := He.ba h2
  exact ⟨⟨⟨⟨h, KX, G⟩, c.d⟩, h1⟩, h2, c.y, h3, c.g⟩
theorem TxX.xc (T : TxX fa fn es xs gs file K mg) (i : Nat) {d : XcD} (h : xs[i]? = some d) : fnY K d.cls = d.val ∧ d.ok K file = true := by
  have e2 : (xs.map fun d => fnY K d.cls)[i]? = (xs.map XcD.val)[i]? := by rw [T.xv]
  rw [List.getElem?_map, List.getElem?_map, h] at e2
  exact ⟨Option.some.inj e2, List.all_eq_true.mp T.xo d (List.mem_of_getElem? h)⟩
theorem TxX.ge (T : TxX fa fn es xs gs file K mg) (i : Nat) {d : GeD} (h : gs[i]? = some d) : PropOf K (He.ga K d.cls) d.prop (prP K d.cls d.prop) (prG K d.cls d.prop) ∧ ∃ fd, FunD K d.prop d.qual d.params d.body d.scope [] [] (prG K d.cls d.prop) fd := by
  have e2 : (gs.map fun d => fnG K d.cls d.prop)[i]? = (gs.map GeD.val)[i]? := by rw [T.gv]
  rw [List.getElem?_map, List.getElem?_map, h] at e2
  have o := List.all_eq_true.mp T.go d (List.mem_of_getElem? h)
  exact ⟨propB_ok (He.ba o).1, GeD.funD (Option.some.inj e2) o⟩
end
/-- further Bools: fields of an exception, isinstance of it, a property -/
def noB (C f : Str) (K : PySem.W.Frag) : Bool := decide (PySem.W.findIn K (.ref (He.ga K C)) f = some none)
theorem noB_ok {C f : Str} {K : PySem.W.Frag} (h : noB C f K = true) : PySem.W.findIn K (.ref (He.ga K C)) f = some none := of_decide_eq_true h
def xfB' (C : Str) (K : PySem.W.Frag) : Bool := xfB K (He.ga K C)
theorem xfB'_ok {C : Str} {K : PySem.W.Frag} (h : xfB' C K = true) : XfC K (He.ga K C) := xfB_ok h
def exmB (C D : Str) (b : Bool) (K : PySem.W.Frag) : Bool := decide (PySem.W.exmOne K (.ref (He.ga K C)) (.ref (He.ga K D)) = some b)
theorem exmB_ok {C D : Str} {b : Bool} {K : PySem.W.Frag} (h : exmB C D b K = true) : PySem.W.exmOne K (.ref (He.ga K C)) (.ref (He.ga K D)) = some b := of_decide_eq_true h
end Sim

/-! isinstance of a caught exception that has fields; properties -/
namespace PySem.W
open PySem PySem.Calls PyProof.Rows PySem.Spec
section
variable {prog : Program} {w : World} {A : Around} {E : Value → Shared → Prop} {s : Shared} {K : Frag} {x D : Addr} {ox : Obj} {od : Obj}
theorem exc_class {Q : Option Value → Shared → Prop} (C : L2.ExcC K D) (X : K.In s.heap) (I : InstAt s.heap x ox D (some od)) (h : Q (some (.ref D)) { s with toks := s.toks + 1 }) : wpAny (model prog w) A (getAttr? (.ref x) "__class__") Q E s := by
  have hf : findObj K D (some od) "__class__" = some (.bind (.builtin "getset_descriptor.__get__") (.builtin "object.__class__")) := findObj_data (by obtain ⟨cd, hc, _⟩ := any_some C.hd; rw [hc]; rfl) C.ha C.hn C.ht
  obtain ⟨hp, g, d, t, os⟩ := s
  have ty := I.type (M := model prog w)
  have ne : (Value.builtin "BaseException.__getattribute__" == Value.builtin "object.__getattribute__") = false := by decide +kernel
  unfold getAttr? getAttrBy? getAttrBy
  refine wpAny_bind (wpAny_mkText (wpAny_bind (wpAny_attempt (wpAny_holding (wpAny_bind (ty.at (wpAny_bind ((looks_findIn (M := model prog w) X C.hg).at ?_))))))))
  refine KFB.if_not (by rw [ne]; rfl) ?_
  unfold getAttrByItsOwn hookBefore callGetattribute boundAndCalled
  refine wpAny_bind (KFB.if_so rfl ((looks_findIn (M := model prog w) X C.hk).at ?_))
  refine wpAny_bind (wpAny_attempt (wpAny_holding (KFB.if_not rfl ?_)))
  rw [PySem.F.excAttr_ValueError.ga.bind (.ref x)]
  refine wpAny_bind (wpAny_pure ?_)
  show wpAny _ _ (call (.builtin "BaseException.__getattribute__") [.ref x, .str "__class__" t]) _ _ _
  refine wpAny_call (codeAny_call_builtin PySem.F.excAttr_ValueError.ga.plain PySem.F.entry_bexc_ga ?_)
  refine @check_slot (model prog w) _ _ ⟨hp, g, d, t + 1, os⟩ "BaseException.__getattribute__" "BaseException" "__getattribute__" (.ref x) [.str "__class__" t] [] _ (by decide +kernel) (by decide +kernel) (ty.andThen (looks_subIn X C.hs)) (PySem.F.args_bexc_ga (.ref x) (.str "__class__" t)) ?_
  unfold Builtin.«object.__getattribute__»
  refine wpAny_bind (wpAny_of_eq (a := ((Value.ref x : Value), [Value.str "__class__" t])) (by first | rfl | (simp only [slotArgs]; rfl)) ?_)
  refine wpAny_bind (wpAny_pure (wpAny_bind (ty.at (wpAny_bind ((looks_find (M := model prog w) X I hf).at ?_)))))
  refine wpAny_bind (wpAny_holding (wpAny_call (class_get (s := ⟨hp, g, d, t + 1, os⟩) (ox := ox) (od := some od) X I C.hm ?_)))
  refine wpAny_pure ?_
  show wpAny _ _ (handedOut (.ref D)) _ _ _
  rw [handedOut_of (v := .ref D) rfl]
  first
    | exact wpAny_pure (wpAny_pure h)
    | exact wpAny_pure h
    | exact wpAny_pure (wpAny_bind (wpAny_pure (wpAny_pure h)))
end
end PySem.W
namespace L2
open PySem PySem.Spec PyProof.Rows
/-- isinstance(e, c), e the caught exception, its dict at dd -/
def rIsX (K : PySem.W.Frag) (D a dd : Addr) : List V → Hp → VK → Prop := fun xs H Q => ∃ (c : V) (cv : Value) (b : Bool) (fs : List (Str × V)), xs = [.ref a, c] ∧ (∀ u, RelV c u → u = cv) ∧ PySem.W.kitOne K (.ref D) cv = some b ∧ H dd = some (.xd fs) ∧ Q (.bl b) H
theorem call_isX {X : Cx} {a D dd : Addr} {oe : Obj} {pn : List (Addr × Obj)} (C : ExcC X.K D) (hz : Zc (.ref D) (some dd) oe) (hf : ∃ vs, oe.data = .fields vs) : CallR (X.suite a ((a, oe) :: pn)) (.builtin "isinstance") (rIsX X.K D a dd) := by
  intro pins s σ H xs us Q I r h
  obtain ⟨c, cv, b, fs, rfl, hcv, e, hd, q⟩ := h
  cases r with
  | cons rx rr =>
    cases rr with
    | cons rt rr =>
      cases rr
      cases rx
      have ec := hcv _ rt
      subst ec
      obtain ⟨hget, _⟩ := I.pin (a, oe) (List.mem_append.mpr (.inl List.mem_cons_self))
      obtain ⟨vs, hv⟩ := hf
      obtain ⟨mA, hns, _⟩ : ObjOk X.prog X.w H s.heap dd (.xd fs) := I.hok dd _ hd
      obtain ⟨od, ho, _⟩ := lookIn_ns hns
      have J : PySem.W.InstAt s.heap a oe D (some od) := ⟨hget, hz.1, by unfold PySem.W.notCls; rw [hv] <;> rfl, by rw [hz.2]; exact ho⟩
      have Z : PySem.W.KitX X.K (.ref a) (.ref D) (fun h => PySem.W.InstAt h a oe D (some od)) := {
        ty := fun _ _ _ I => I.type
        it := (fun _ _ Y _ => by
          obtain ⟨cd, hc, _⟩ := PySem.W.any_some C.hd
          unfold PySem.W.clsIn at hc
          split at hc
          · rename_i ho
            intro A' Q' E' s' k q
            unfold isType loadHead
            exact wpAny_bind (wpAny_loadPart (k _ _ (Y _ _ ho)) (wpAny_pure q))
          · cases hc)
        ne := (PySem.W.handS_kitx_exc (x := a) (ox := oe) C.hg C.hk C.hs C.hd C.ha C.hn C.ht C.hm).ne
        ca := fun Y I k => PySem.W.exc_class C Y I k }
      exact PySem.W.kia_one Z I.kIn J e (fun z => nomatch z) fun tk => ⟨.bl b, H, I.kept (t' := tk) fun _ _ z => z, rfl, q⟩
end L2
namespace Sim
open PySem PySem.Spec PyProof.Rows L2 Evl
section
variable {K : PySem.W.Frag} {σ : L2.St} {G H W : Hp} {to : TE} {ta : TA} {α γ : Type} {T : Rep γ}
/-- o.f, a property -/
theorem e_prop {C : Addr} {ns : List Str} {fl : α → List Pd} {m : Option α} {f : α × Unit → Option γ} {X : XK} (h : E to σ G W (rObj C ns fl) m) : E (tProp C (PF (aC (rObj C ns fl) aN) T f) [] X to) σ G W T (m >>= fun o => f (o, ())) := fun z hz H e e' Q q => by
  obtain ⟨x, hx, hz⟩ := bindS hz
  refine h x hx H e e' _ fun v H1 G1 u r => ?_
  obtain ⟨a, dx, fs, rfl, h2, h3⟩ := r
  refine ⟨a, dx, fs, rfl, u.gh a _ h2, ?_⟩
  exact ⟨G1, (x, ()), z, u.gh, ⟨.ref a, [], rfl, ⟨a, dx, fs, rfl, h2, h3⟩, rfl⟩, hz, fun v H4 G4 u4 r4 => q v H4 G4 (u.trans u4) r4⟩
/-- isinstance(e, X), e the caught exception -/
theorem rc_isX {a dd : Addr} {D : Addr} {c : V} {cv : Value} {b : Bool} {e : Xn} (hcv : ∀ u, RelV c u → u = cv) (hk : PySem.W.kitOne K (.ref D) cv = some b) (hx : Xat G e dd) {Q : VK} (he : Ex G H) (q : Q (.bl b) H) : rIsX K D a dd [.ref a, c] H Q := by
  obtain ⟨fs, h1, _⟩ := hx
  exact ⟨c, cv, b, fs, rfl, hcv, hk, he dd _ h1, q⟩
end
end Sim

namespace Sim
open PySem PySem.Spec PyProof.Rows L2 Evl
theorem look_app {α : Type} {f : Str} {x : α} : ∀ {l r : List (Str × α)}, (∀ y, (f, y) ∉ l) → (l ++ [(f, x)]).lookup f = some x
  | [], _, _ => by simp [List.lookup]
  | (g, y) :: l, r, h => by
    have hg : (f == g) = false := by
      rw [beq_eq_false_iff_ne]
      rintro rfl
      exact h y (List.mem_cons_self ..)
    rw [List.cons_append, List.lookup_cons, hg]
    exact look_app (r := r) fun z hz => h z (List.mem_cons_of_mem _ hz)
theorem look_app' {α : Type} {f g : Str} {x : α} (hne : f ≠ g) : ∀ {l : List (Str × α)} {y : α}, l.lookup f = some y → (l ++ [(g, x)]).lookup f = some y
  | [], _, h => by cases h
  | (k, z) :: l, y, h => by
    rw [List.cons_append, List.lookup_cons]
    rw [List.lookup_cons] at h
    cases e : (f == k) with
    | true => rw [e] at h; exact h
    | false => rw [e] at h; exact look_app' hne h
/-- the fields of a raised exception, from what its arguments tell -/
theorem look_rev {G : Hp} : ∀ {names : List Str} {vs : List V} {xs : List Xv} {f : Str} {x : Xv}, names.Nodup → Paired (rX.r G) vs xs → (names.zip xs).lookup f = some x → ∃ v, (names.zip vs).reverse.lookup f = some v ∧ rX.r G v x
  | [], vs, xs, f, x, _, _, h => by cases h
  | n :: names, [], xs, f, x, _, r, h => by cases r; cases h
  | n :: names, v :: vs, [], f, x, _, r, h => by cases r
  | n :: names, v :: vs, y :: xs, f, x, nd, r, h => by
    cases r with
    | cons r1 r2 =>
    obtain ⟨hn, nd⟩ := List.nodup_cons.mp nd
    rw [List.zip_cons_cons, List.lookup_cons] at h
    rw [List.zip_cons_cons, List.reverse_cons]
    cases e : (f == n) with
    | true =>
      rw [e] at h
      cases h
      have : f = n := eq_of_beq e
      subst this
      exact ⟨v, look_app (r := []) (fun z hz => hn (List.of_mem_zip (List.mem_reverse.mp hz)).1), r1⟩
    | false =>
      rw [e] at h
      obtain ⟨u, h1, h2⟩ := look_rev nd r2 h
      exact ⟨u, look_app' (beq_eq_false_iff_ne.mp e) h1, h2⟩
theorem Xat_mk {G : Hp} {d : Addr} {names : List Str} {vs : List V} {xs : List Xv} {cls : Str} (nd : names.Nodup) (hd : G d = some (.xd (names.zip vs).reverse)) (r : Paired (rX.r G) vs xs) : Xat G ⟨cls, names.zip xs⟩ d :=
  ⟨_, hd, fun f x h => look_rev nd r h⟩
end Sim

/-! a class made whose __init__ may raise; isinstance of whatever was caught; tables of exception classes -/
namespace L2
open PySem PySem.Spec PyProof.Rows
section
variable {X : Cx} {CX : CXT} {k : Nat} {f C : Addr} {fd : FuncData} {ps : List Str} {sp : Sp} {E : St → XK} {x m : Str} {p pos apos : Pos} {e o : Expr} {es : List Expr} {ta : TE} {t : TA}
/-- C(e, ..), what is raised wished for at the slots -/
def tMakeT (C : Addr) (sp : Sp) (E : St → XK) (t : TA) : TE := fun σ H Q => t σ H fun vs H1 => ∀ x dx, H1 x = none → H1 dx = none → dx ≠ x → sp (.ref x :: vs) (upd (upd H1 dx (.own x)) x (.ins C dx [])) (fun v H2 => v = .non ∧ Q (.ref x) H2) (E σ)
theorem run_makeT {pins : List (Addr × Obj)} {σ : St} {H : Hp} {s : Shared} {Q : VK} {us : List Value} {vs : List V} (M : Mk X.K C f) (F : FnOk X.prog X.w X.K X.mg X.base CX k f fd ps sp) (hr : Room (k + 1) X.A) (hb : Binds X.K fd ps [])
    (hx : PassesAt CX X σ (E σ)) (I : Inv X pins σ H s) (r : Vals vs us)
    (h : ∀ x dx, H x = none → H dx = none → dx ≠ x → sp (.ref x :: vs) (upd (upd H dx (.own x)) x (.ins C dx [])) (fun v H2 => v = .non ∧ Q (.ref x) H2) (E σ)) :
    wpAny (model X.prog X.w) X.A (call (.ref C) us) (EP X pins σ Q) X.xe s := by
  have hq := h (s.heap.objs.size + 1) s.heap.objs.size (I.hok.fresh (Nat.le_succ _)) (I.hok.fresh (Nat.le_refl _)) (Nat.ne_of_lt (Nat.lt_succ_self _))
  have I2 := Inv.made (C := C) I
  have r2 : Vals (V.ref (s.heap.objs.size + 1) :: vs) (Value.ref (s.heap.objs.size + 1) :: us) := .cons rfl r
  have hl : (Value.ref (s.heap.objs.size + 1) :: us).length = ps.length := by
    have e := r2.length
    rw [F.len _ _ _ _ hq] at e
    exact e.symm
  have b := hb s (Value.ref (s.heap.objs.size + 1) :: us) I.kIn (by rw [List.append_nil]; exact hl)
  have b2 := hb _ (Value.ref (s.heap.objs.size + 1) :: us) I2.kIn (by rw [List.append_nil]; exact hl)
  rw [List.append_nil] at b2
  refine wpAny_call (make_map (f := f) I.kIn M.makes M.init (beq_iff_eq.mp M.fn) (codeAny_mono (F.run _ X.stack _ _ ⟨Value.ref (s.heap.objs.size + 1) :: us, []⟩ (Value.ref (s.heap.objs.size + 1) :: us) _ _ (E σ) (hr.make C us [])
    (I2.env0.make C us []) b2 r2 hq) fun r s' hq' => ?_))
  cases r with
  | error e => exact hx pins _ _ e s' I2 hq'
  | ok fl =>
    cases fl with
    | ret u =>
      obtain ⟨v, H', I3, rv, ev, q3⟩ := I2.after hq'
      subst ev
      exact ⟨rv, ⟨V.ref (s.heap.objs.size + 1), H', I3, rfl, q3⟩⟩
    | next => exact False.elim hq'
    | brk => exact False.elim hq'
    | cont => exact False.elim hq'
theorem pe_makeT (M : Mk X.K C f) (F : FnOk X.prog X.w X.K X.mg X.base CX k f fd ps sp) (hr : Room (k + 1) X.A) (hg : Gl X x) (hm : X.mg x = some (.ref C)) (hb : Binds X.K fd ps []) (hx : ∀ σ, PassesAt CX X σ (E σ))
    (ha : PA X (e :: es) t) (hdb : (x == ("__debug__" : Str)) = false := by decide) (he : starEach (e :: es) X.env = (false, eval e X.env) :: starEach es X.env := by rfl) (hpl : (backTo pos (starEach es X.env)).any (·.1) = false := by rfl) :
    PE X (.Call (.Name x p) (e :: es) [] pos) (tMakeT C sp E t) := by
  refine ⟨fun pins s σ H Q I h => ?_⟩
  refine wpAny_Call_Name_kw (ld_glob I hg hm ?_ hdb)
  refine PySem.W.callWith_K (h₀ := X.base) I.ok.mod.kin M.kp (thn (ha.run pos pins s σ H _ I h) fun us s1 ⟨vs, H1, I1, r, q⟩ => ⟨I1.kIn, ?_⟩) he hpl
  exact run_makeT M F hr hb (hx σ) I1 r q
/-- nothing is raised here -/
theorem takes_no : Takes X (fun _ _ _ _ => False) := fun _ _ ⟨_, _, _, _, _, _, _, _, _, _, _, _, _, _, _, _, w⟩ => w.elim
end
/-- isinstance(e, c), e the caught exception, whatever its class -/
def rIsZ (K : PySem.W.Frag) (cls : Value) (d : Option Addr) (a : Addr) : List V → Hp → VK → Prop := fun xs H Q => ∃ (D dd : Addr) (c : V) (cv : Value) (b : Bool) (fs : List (Str × V)), cls = .ref D ∧ d = some dd ∧ ExcC K D ∧ xs = [.ref a, c] ∧ (∀ u, RelV c u → u = cv) ∧ PySem.W.kitOne K (.ref D) cv = some b ∧ H dd = some (.xd fs) ∧ Q (.bl b) H
theorem call_isZ {X : Cx} {a : Addr} {cls : Value} {d : Option Addr} {oe : Obj} {pn : List (Addr × Obj)} (hz : Zc cls d oe) (hf : ∃ vs, oe.data = .fields vs) : CallR (X.suite a ((a, oe) :: pn)) (.builtin "isinstance") (rIsZ X.K cls d a) := by
  intro pins s σ H xs us Q I r h
  obtain ⟨D, dd, c, cv, b, fs, rfl, rfl, hC, h⟩ := h
  exact call_isX hC hz hf pins s σ H xs us Q I r ⟨c, cv, b, fs, h⟩
/-- e.f, e the caught exception, whatever its class -/
def tXz (K : PySem.W.Frag) (a : Addr) (cls : Value) (d : Option Addr) (f : Str) (te : TE) : TE := fun σ H Q => te σ H fun x H1 => x = .ref a ∧ ∃ (C dd : Addr) (fs : List (Str × V)) (v : V), cls = .ref C ∧ XfC K C ∧ PySem.W.findIn K (.ref C) f = some none ∧ d = some dd ∧ H1 dd = some (.xd fs) ∧ fs.lookup f = some v ∧ Q v H1
theorem pe_xz {X : Cx} {a : Addr} {oe : Obj} {cls : Value} {d : Option Addr} {pn : List (Addr × Obj)} {e : Expr} {te : TE} {pos : Pos} {n : Str}
    (hz : Zc cls d oe) (hf : ∃ vs, oe.data = .fields vs) (he : PE (X.suite a ((a, oe) :: pn)) e te) (hb : attributeBase e n X.env (eval e X.env) = eval e X.env := by rfl) :
    PE (X.suite a ((a, oe) :: pn)) (.Attribute e n pos) (tXz X.K a cls d n te) := by
  refine ⟨fun pins s σ H Q I h => ?_⟩
  refine attr_of hb (thn (he.run pins s σ H _ I h) fun u s1 hh => ?_)
  obtain ⟨x, H1, I1, rx, ex, C, dd, fs, v, ec, T, hno, ed, ea, l, q⟩ := hh
  subst ex
  obtain rfl : u = Value.ref a := rx
  subst ec
  subst ed
  obtain ⟨ha, _⟩ := I1.pin (a, oe) (List.mem_append_left _ List.mem_cons_self)
  obtain ⟨vs, hd⟩ := hf
  have hx : ObjOk X.prog X.w H1 s1.heap dd (.xd fs) := I1.hok dd _ ea
  obtain ⟨mA, hns, hr⟩ := hx
  obtain ⟨od, ho, hl⟩ := lookIn_ns hns
  obtain ⟨u, hu, ru⟩ := RelO.some_of (v := v) (o := mA n) (by rw [← l]; exact hr n)
  have J : PySem.W.InstAt s1.heap a oe C (some od) := ⟨ha, hz.1, by unfold PySem.W.notCls; rw [hd] <;> rfl, by rw [hz.2]; exact ho⟩
  exact HandSPX.exc_get I1.kIn J T.ga T.gg T.exC (PySem.W.findObj_own T.hdC hno rfl (by rw [hl, hu])) (handed_of ru) ⟨v, H1, I1.tok _, ru, q⟩
end L2
namespace Sim
open PySem PySem.Spec PyProof.Rows L2 Evl
/-! tables: what the top's end says of the exception classes cs -/
def excCB (K : PySem.W.Frag) (D : Addr) : Bool := decide (PySem.W.findIn K (.ref D) "__getattribute__" = some (some (.builtin "BaseException.__getattribute__"))) && (decide (PySem.W.findIn K (.ref D) "__getattr__" = some none) &&
  (decide (PySem.W.subIn K (.ref D) (.type "BaseException") = some true) && (PySem.W.hasDictIn K D && (decide (PySem.W.findIn K (.ref D) "__class__" = some (some (.builtin "object.__class__"))) &&
  (decide (PySem.W.specialIn K (.builtin "object.__class__") "__get__" = some (some (.builtin "getset_descriptor.__get__"))) && (decide (PySem.W.takesIn K (.builtin "object.__class__") = some true) && decide (PySem.W.mroIn K D (.type "object") = some true)))))))
theorem excCB_ok {K : PySem.W.Frag} {D : Addr} (h : excCB K D = true) : ExcC K D := by
  obtain ⟨h1, h⟩ := He.ba h
  obtain ⟨h2, h⟩ := He.ba h
  obtain ⟨h3, h⟩ := He.ba h
  obtain ⟨h4, h⟩ := He.ba h
  obtain ⟨h5, h⟩ := He.ba h
  obtain ⟨h6, h⟩ := He.ba h
  obtain ⟨h7, h8⟩ := He.ba h
  exact ⟨of_decide_eq_true h1, of_decide_eq_true h2, of_decide_eq_true h3, h4, of_decide_eq_true h5, of_decide_eq_true h6, of_decide_eq_true h7, of_decide_eq_true h8⟩
/-- each of cs: an exception class that is told by its fields -/
def xsB (cs : List Str) (K : PySem.W.Frag) : Bool := cs.all fun C => excCB K (He.ga K C) && xfB K (He.ga K C)
/-- no attribute of these names in the classes -/
def xnB (cs : List Str) (fs : List Str) (K : PySem.W.Frag) : Bool := cs.all fun C => fs.all fun f => noB C f K
/-- for each of cs: the clause 'except D' -/
def xaB (cs : List Str) (D : Str) (b : Bool) (K : PySem.W.Frag) : Bool := cs.all fun C => exmB C D b K
def kiB (C : Str) (v : Value) (b : Bool) (K : PySem.W.Frag) : Bool := decide (PySem.W.kitOne K (.ref (He.ga K C)) v = some b)
/-- for each of cs: isinstance(e, D) -/
def xkB (cs : List Str) (D : Str) (ds : List Str) (K : PySem.W.Frag) : Bool := cs.all fun C => kiB C (.ref (He.ga K D)) (ds.contains C) K
def xkTB (cs : List Str) (D : String) (b : Bool) (K : PySem.W.Frag) : Bool := cs.all fun C => kiB C (.type D) b K
section
variable {K : PySem.W.Frag} {cs fs : List Str} {C D f : Str} {b : Bool}
theorem xs_ok (h : xsB cs K = true) (hC : cs.contains C = true) : ExcC K (He.ga K C) ∧ XfC K (He.ga K C) := by
  have := List.all_eq_true.mp h C (List.contains_iff_mem.mp hC)
  obtain ⟨h1, h2⟩ := He.ba this
  exact ⟨excCB_ok h1, xfB_ok h2⟩
theorem xn_ok (h : xnB cs fs K = true) (hC : cs.contains C = true) (hf : fs.contains f = true) : PySem.W.findIn K (.ref (He.ga K C)) f = some none :=
  noB_ok (List.all_eq_true.mp (List.all_eq_true.mp h C (List.contains_iff_mem.mp hC)) f (List.contains_iff_mem.mp hf))
theorem xa_ok (h : xaB cs D b K = true) (hC : cs.contains C = true) : PySem.W.exmOne K (.ref (He.ga K C)) (.ref (He.ga K D)) = some b := exmB_ok (List.all_eq_true.mp h C (List.contains_iff_mem.mp hC))
theorem xk_ok {ds : List Str} (h : xkB cs D ds K = true) (hC : cs.contains C = true) : PySem.W.kitOne K (.ref (He.ga K C)) (.ref (He.ga K D)) = some (ds.contains C) := of_decide_eq_true (List.all_eq_true.mp h C (List.contains_iff_mem.mp hC))
theorem xkT_ok {D : String} (h : xkTB cs D b K = true) (hC : cs.contains C = true) : PySem.W.kitOne K (.ref (He.ga K C)) (.type D) = some b := of_decide_eq_true (List.all_eq_true.mp h C (List.contains_iff_mem.mp hC))
end
theorem sumL {α β γ : Type} {f : α → Option γ} {g : β → Option γ} {e : α} {r : γ} (h : Sum.elim f g (Sum.inl e) = some r) : f e = some r := h
theorem sumR {α β γ : Type} {f : α → Option γ} {g : β → Option γ} {e : β} {r : γ} (h : Sum.elim f g (Sum.inr e) = some r) : g e = some r := h
theorem bifO {α : Type} {c : Bool} {a b : Option α} {r : α} (h : (bif c then a else b) = some r) : (c = true ∧ a = some r) ∨ (c = false ∧ b = some r) := by
  cases c with
  | true => exact Or.inl ⟨rfl, h⟩
  | false => exact Or.inr ⟨rfl, h⟩
section
variable {K : PySem.W.Frag} {σ : L2.St} {G H W G0 H0 G2 H2 : Hp} {ls : List Addr} {cs : Cs} {ta tb : TA} {to te tu : TE} {ι α β γ : Type} {A : AR ι} {R : Rep α} {S : Rep β} {T : Rep γ} {D : Ends} {l C : Addr} {ns : List Str} {fl : α → List Pd}
/-- the promise of an __init__ that may raise -/
def PXI (K : PySem.W.Frag) (C : Addr) (A : AR ι) (ns : List Str) (fl : α → List Pd) (f : ι → Option (Xn ⊕ α)) : Sp := fun vs H Q E => ∃ G x ws i r, vs = .ref x :: ws ∧ Wd G H [(x, cI C [] [])] ∧ A.r G ws i ∧ f i = some r ∧
  (∀ e, r = .inl e → ∀ d H2 G2, Fr G H G2 H2 [x] → Ex G2 H2 → Xat G2 e d → E (.ref (He.ga K e.cls)) (some d) H2) ∧
  (∀ o, r = .inr o → ∀ H2 G2, Fr G H G2 H2 [x] → Wd G2 H2 [(x, cI C ns (fl o))] → Q .non H2)
theorem ex_make {f : ι → Option (Xn ⊕ α)} {ta : TA} {mi : Option ι} {Wx : L2.St → XK} (ha : EA ta σ G W A mi) : EX K (tMakeT C (PXI K C A ns fl f) Wx ta) σ G W (rObj C ns fl) (mi >>= f) (Wx σ) := fun z hz H e e' Q qx q => by
  obtain ⟨i, hi, hz⟩ := bindS hz
  refine ha i hi H e e' _ fun vs H1 G1 u1 r1 => ?_
  intro x dx nx ndx ne
  have w1 : Wd G1 (upd (upd H1 dx (.own x)) x (.ins C dx [])) [(x, cI C [] [])] := new_ins u1.gh nx ndx ne
  have hh : ∀ {G2 H2 : Hp}, Fr G1 (upd (upd H1 dx (.own x)) x (.ins C dx [])) G2 H2 [x] → Ex H1 H2 := fun fr a o h => by
    have na : a ≠ x := ne_of_none h nx
    have nd : a ≠ dx := ne_of_none h ndx
    exact fr.fr a o (by rw [upd_ne na, upd_ne nd]; exact h) fun z => na (List.mem_singleton.mp z)
  have nn : ∀ {G2 H2 : Hp}, Fr G1 (upd (upd H1 dx (.own x)) x (.ins C dx [])) G2 H2 [x] → ∀ a, H1 a ≠ none → G1 a = none → a ≠ x ∧ G2 a = none := fun fr a h1 h2 => by
    have na : a ≠ x := fun z => by subst z; exact h1 nx
    have nd : a ≠ dx := fun z => by subst z; exact h1 ndx
    exact ⟨na, fr.nw a (by rw [upd_ne na, upd_ne nd]; exact h1) h2⟩
  refine ⟨G1, x, vs, i, z, rfl, w1, r1, hz, fun xn hx d H2 G2 fr ee xa => ?_, fun o ho H2 G2 fr w2 => ⟨rfl, ?_⟩⟩
  · exact qx xn hx d H2 G2 (u1.trans ⟨fr.gg, ee, hh fr, fun a h1 h2 => (nn fr a h1 h2).2⟩) xa
  · obtain ⟨G3, k1, k2, k3, dx', fs, k4, k5⟩ := ob_freeze w2
    exact q o ho _ H2 G3 (u1.trans ⟨fr.gg.trans k1, k2, hh fr, fun a h1 h2 => k3 a (nn fr a h1 h2).1 (nn fr a h1 h2).2⟩) ⟨x, dx', fs, rfl, k4, k5⟩
theorem Xat.upE {ls : List Addr} {e : Xn} {d : Addr} (h : Xat G e d) (x : Ex G G2) : Xat G2 e d := h.mono x
/-- what does not raise -/
theorem ex_e {m : Option α} {Wx : XK} (h : E te σ G W R m) : EX K te σ G W R (m >>= fun x => some (.inr x)) Wx := fun r hr H e e' Q qx q => by
  obtain ⟨x, hx, hr⟩ := bindS hr
  cases hr
  exact h x hx H e e' Q fun v H2 G2 u r => q x rfl v H2 G2 u r
/-- an operator, the first operand may raise -/
theorem ex_op {r : R2} {f : α → β → Option γ} {ma : Option (Xn ⊕ α)} {mb : Option β} {Wx : XK} (hr : RR r R S T f) (ha : EX K te σ G W R ma Wx) (hb : E tu σ G W S mb) :
    EX K (tOp r te tu) σ G W T (ma >>= Sum.elim (fun e => some (.inl e)) fun x => mb >>= fun y => f x y >>= fun z => some (.inr z)) Wx := fun z hz H e e' Q qx q => by
  obtain ⟨x, hx, hz⟩ := bindS hz
  refine ha x hx H e e' _ (fun xn hxn d H2 G2 u xa => ?_) fun x' hx' v H1 G1 u1 r1 => ?_
  · subst hxn
    cases hz
    exact qx xn rfl d H2 G2 u xa
  · subst hx'
    have hz : (mb >>= fun y => f x' y >>= fun z => some (.inr z)) = some z := hz
    obtain ⟨y, hy, hz⟩ := bindS hz
    obtain ⟨z', hz', hz⟩ := bindS hz
    cases hz
    refine (hb.mono u1.gg (e'.trans u1.hh)) y hy H1 u1.gh (Ex.refl _) _ fun w H2 G2 u2 r2 => ?_
    exact hr v w x' y z' H2 G2 (R.mono u2.gg r1) r2 hz' u2.gh Q fun u H3 G3 u3 r3 => q z' rfl u H3 G3 ((u1.trans u2).trans u3) r3
/-- isinstance(e, c) of the caught exception -/
theorem e_isZ {a d : Addr} {e : Xn} {i : Nat} {c : V} {cv : Value} {b : Bool} (hs : σ[i]? = some (some (.ref a))) (hx : Xat G e d) (hC : ExcC K (He.ga K e.cls)) (hcv : ∀ u, RelV c u → u = cv) (hk : PySem.W.kitOne K (.ref (He.ga K e.cls)) cv = some b) :
    E (tCB (rIsZ K (.ref (He.ga K e.cls)) (some d) a) (tCons (tVar i) (tCons (tC c) tNil))) σ G W rB (some b) := fun z hz H ee e' Q q => by
  cases hz
  obtain ⟨fs, h1, _⟩ := hx
  exact ⟨.ref a, hs, _, _, c, cv, _, fs, rfl, rfl, hC, rfl, hcv, hk, ee d _ h1, q _ H G (Up.refl ee) rfl⟩
def xI (e : Xn) (f : Str) : Option Int := e.fs.lookup f >>= fun x => match x with | .int y => some y | _ => none
def xS (e : Xn) (f : Str) : Option Str := e.fs.lookup f >>= fun x => match x with | .str y => some y | _ => none
/-- e.f of the caught exception -/
theorem e_xz {a d : Addr} {e : Xn} {f : Str} {i : Nat} (hs : σ[i]? = some (some (.ref a))) (hx : Xat G e d) (hC : XfC K (He.ga K e.cls)) (hno : PySem.W.findIn K (.ref (He.ga K e.cls)) f = some none) : E (tXz K a (.ref (He.ga K e.cls)) (some d) f (tVar i)) σ G W rI (xI e f) := fun z hz H ee e' Q q => by
  obtain ⟨x, hx1, hz⟩ := bindS hz
  cases x with
  | str _ => cases hz
  | int y =>
    cases hz
    obtain ⟨fs, h1, h2⟩ := hx
    obtain ⟨v, h3, h4⟩ := h2 f _ hx1
    exact ⟨.ref a, hs, rfl, _, d, fs, v, rfl, hC, hno, rfl, ee d _ h1, h3, q v H G (Up.refl ee) h4⟩
theorem e_xzS {a d : Addr} {e : Xn} {f : Str} {i : Nat} (hs : σ[i]? = some (some (.ref a))) (hx : Xat G e d) (hC : XfC K (He.ga K e.cls)) (hno : PySem.W.findIn K (.ref (He.ga K e.cls)) f = some none) : E (tXz K a (.ref (He.ga K e.cls)) (some d) f (tVar i)) σ G W rS (xS e f) := fun z hz H ee e' Q q => by
  obtain ⟨x, hx1, hz⟩ := bindS hz
  cases x with
  | int _ => cases hz
  | str y =>
    cases hz
    obtain ⟨fs, h1, h2⟩ := hx
    obtain ⟨v, h3, h4⟩ := h2 f _ hx1
    exact ⟨.ref a, hs, rfl, _, d, fs, v, rfl, hC, hno, rfl, ee d _ h1, h3, q v H G (Up.refl ee) h4⟩
end
end Sim

/-! properties; == of further data; list + list; index; all, any -/
namespace Sim
open PySem PySem.Spec PyProof.Rows L2 Evl
def Fp (P : Program) (w : World) (K : PySem.W.Frag) (mg : Str → Option Value) (base : Heap) (CX : CXT) (k : Nat) (c m : Str) (ps : List Str) (sp : Sp) : Prop :=
  ∃ fd, FnOk P w K mg base CX k (prG K c m) fd ps sp ∧ Binds K fd ps []
theorem fp_mk {K : PySem.W.Frag} {mg : Str → Option Value} {P : Program} {w : World} {base : Heap} {CX : CXT} {k : Nat} {c m x qual : Str} {ps : List Str} {sp : Sp} {fd : FuncData} {params : Arguments} {body : List Stmt} {scope : Scope} (F : FunD K x qual params body scope [] [] (prG K c m) fd)
    (hb : ∀ (kV doc pm : Value) (an : Option Addr) (cdv ct : Value) (us : List Value), us.length = ps.length → bindArgs (PySem.W.fnOf x qual params body scope .none kV doc pm an cdv ct) ⟨us, []⟩ = pure (ps.zip us))
    (h : FnOk P w K mg base CX k (prG K c m) fd ps sp) : Fp P w K mg base CX k c m ps sp := ⟨fd, h, F.bindsN hb⟩
section
variable {K : PySem.W.Frag} {σ : L2.St} {G H W G' W' : Hp} {ta : TA} {te tu : TE} {ι α β γ : Type} {A : AR ι} {R : Rep α} {S : Rep β} {T : Rep γ}
theorem dtS : Dt rS PyData.str 0 := ⟨fun h => by rw [show _ = V.str _ from h]; exact .str _, fun _ => rfl, fun _ => Nat.le_refl _, fun x y => by simp [PyData.eqv]⟩
/-- never equal to None -/
class NoN (d : α → PyData) : Prop where
  ne : ∀ x, PyData.eqv .none (d x) = false ∧ PyData.eqv (d x) .none = false
instance : NoN PyData.int := ⟨fun x => ⟨by simp [PyData.eqv], by simp [PyData.eqv]⟩⟩
instance : NoN PyData.bool := ⟨fun x => ⟨by simp [PyData.eqv], by simp [PyData.eqv]⟩⟩
instance : NoN PyData.str := ⟨fun x => ⟨by simp [PyData.eqv], by simp [PyData.eqv]⟩⟩
instance {d : α → PyData} : NoN (fun xs : List α => PyData.list (xs.map d)) := ⟨fun x => ⟨by simp [PyData.eqv], by simp [PyData.eqv]⟩⟩
instance {d : α → PyData} : NoN (fun xs : List α => PyData.tuple (xs.map d)) := ⟨fun x => ⟨by simp [PyData.eqv], by simp [PyData.eqv]⟩⟩
instance {d : α → PyData} {f : β → PyData} : NoN (fun p : α × β => PyData.tuple [d p.1, f p.2]) := ⟨fun x => ⟨by simp [PyData.eqv], by simp [PyData.eqv]⟩⟩
def dO (d : α → PyData) : Option α → PyData
  | none => .none
  | some x => d x
theorem dtO {d : α → PyData} {n : Nat} (h : Dt R d n) [N : NoN d] : Dt (rO R) (dO d) n := by
  refine ⟨fun {K H v x} r => ?_, fun x => ?_, fun x => ?_, fun x y => ?_⟩
  · cases x with
    | none => have : v = .non := r; subst this; exact .non
    | some x => exact h.dp r
  · cases x with
    | none => rfl
    | some x => exact h.lay x
  · cases x with
    | none => exact Nat.zero_le _
    | some x => exact h.dep x
  · cases x with
    | none =>
      cases y with
      | none => simp [dO, PyData.eqv]
      | some y => simp [dO, (N.ne y).1]
    | some x =>
      cases y with
      | none => simp [dO, (N.ne x).2]
      | some y => simp [dO, h.eq x y]
/-- an operator that makes a new list -/
def RRL (r : R2) (R : Rep α) (S : Rep β) (T : Rep γ) (f : α → β → Option (List γ)) : Prop :=
  ∀ v w x y z H G, R.r G v x → S.r G w y → f x y = some z → Ex G H → ∀ Q : VK, (∀ p H2 G2, H p = none → Up G H G2 H2 → Wd G2 H2 [(p, cL T z)] → Q (.ref p) H2) → r v w H Q
theorem el_op {r : R2} {f : α → β → Option (List γ)} {ma : Option α} {mb : Option β} (hr : RRL r R S T f) (ha : E te σ G W R ma) (hb : E tu σ G W S mb) :
    EL (tOp r te tu) σ G W T (ma >>= fun x => mb >>= fun y => f x y) := fun z hz H e e' Q q => by
  obtain ⟨x, hx, hz⟩ := bindS hz
  obtain ⟨y, hy, hz⟩ := bindS hz
  refine ha x hx H e e' _ fun v H1 G1 u1 r1 => ?_
  refine (hb.mono u1.gg (e'.trans u1.hh)) y hy H1 u1.gh (Ex.refl _) _ fun w H2 G2 u2 r2 => ?_
  exact hr v w x y z H2 G2 (R.mono u2.gg r1) r2 hz u2.gh Q fun p H3 G3 hp u3 w3 => q p H3 G3 (fresh_back (u1.hh.trans u2.hh) hp) ((u1.trans u2).trans u3) w3
def catM (xs ys : List α) : Option (List α) := bif decide (xs.length + ys.length < 100000) then some (xs ++ ys) else none
theorem rrl_cat : RRL rCat (rL R) (rL R) R (fun xs ys => catM xs ys) := fun v w xs ys z H G hv hw hz e Q q => by
  obtain ⟨a, vs, rfl, h2, h3⟩ := hv
  obtain ⟨b, ws, rfl, k2, k3⟩ := hw
  have hz : (bif decide (xs.length + ys.length < 100000) then some (xs ++ ys) else none) = some z := hz
  cases hl : decide (xs.length + ys.length < 100000) with
  | false => rw [hl] at hz; cases hz
  | true =>
    rw [hl] at hz
    cases hz
    exact ⟨a, b, vs, ws, rfl, rfl, e a _ h2, e b _ k2, by rw [h3.length, k3.length]; exact sz_of (Nat.le_of_lt (of_decide_eq_true hl)), fun p hp => q p _ G hp (up_new e hp) (wd_new e hp (pr_app h3 k3))⟩
/-- a method of a built-in type that changes nothing -/
def RBM (rr : V → List V → Hp → VK → Prop) (R : Rep α) (A : AR ι) (T : Rep γ) (f : α → ι → Option γ) : Prop :=
  ∀ v vs x i z H G, R.r G v x → A.r G vs i → f x i = some z → Ex G H → ∀ Q : VK, (∀ u H2 G2, Up G H G2 H2 → T.r G2 u z → Q u H2) → rr v vs H Q
theorem e_bmL {rr : V → List V → Hp → VK → Prop} {f : List α → ι → Option γ} {m : Option (List α)} {mi : Option ι} (hr : RBM rr (rL R) A T f) (h : E te σ G W (rL R) m) (ha : EA ta σ G W A mi) : E (tBM K "list" rr te ta) σ G W T (m >>= fun x => mi >>= fun i => f x i) := fun z hz H e e' Q q => by
  obtain ⟨x, hx, hz⟩ := bindS hz
  obtain ⟨i, hi, hz⟩ := bindS hz
  refine h x hx H e e' _ fun v H1 G1 u1 r1 => ?_
  refine ⟨?_, (ha.mono u1.gg (e'.trans u1.hh)) i hi H1 u1.gh (Ex.refl _) _ fun vs H2 G2 u2 r2 => ?_⟩
  · obtain ⟨a, us, rfl, h2, _⟩ := r1
    exact .inl ⟨rfl, us, Or.inl (Or.inl (u1.gh a _ h2))⟩
  · exact hr v vs x i z H2 G2 ((rL R).mono u2.gg r1) r2 hz u2.gh Q fun u H3 G3 u3 r3 => q u H3 G3 ((u1.trans u2).trans u3) r3
def idxM (eq : α → α → Bool) (xs : List α) (y : α) : Option Int := (xs.findIdx? fun z => eq z y) >>= fun j => some (j : Int)
theorem idx_ok {eq : α → α → Bool} : ∀ {xs : List α} {y : α} {j : Nat}, (xs.findIdx? fun z => eq z y) = some j → ∃ z, xs[j]? = some z ∧ eq z y = true ∧ ∀ m z', m < j → xs[m]? = some z' → eq z' y = false := fun {xs y j} h => by
  obtain ⟨h1, h2, h3⟩ := List.findIdx?_eq_some_iff_getElem.mp h
  refine ⟨xs[j], List.getElem?_eq_getElem h1, h2, fun m z' hm hz => ?_⟩
  obtain ⟨hl, e⟩ := List.getElem?_eq_some_iff.mp hz
  subst e
  have := h3 m hm
  simpa using this
theorem rbm_index {eq : α → α → Bool} (f : FlR R eq) : RBM (rIndex K) (rL R) (aC R aN) rI (fun xs i => idxM eq xs i.1) := fun v vs xs i z H G hv ha hz e Q q => by
  obtain ⟨a, us, rfl, h2, h3⟩ := hv
  obtain ⟨y, _, rfl, r, rfl⟩ := ha
  obtain ⟨j, hj, hz⟩ := bindS hz
  cases hz
  obtain ⟨z, hz, he, hb⟩ := idx_ok hj
  obtain ⟨_, h5⟩ := pr_inV f r h3
  obtain ⟨w, hw, rw_⟩ := pr_get h3 hz
  refine ⟨a, us, y, j, w, rfl, rfl, Or.inl (Or.inl (e a _ h2)), f.fl r, h5, hw, by rw [f.eq rw_ r]; exact he, fun m z' hm hz' => ?_, q _ H G (Up.refl e) rfl⟩
  obtain ⟨x', hx', r'⟩ := pr_get' h3 hz'
  rw [f.eq r' r]; exact hb m x' hm hx'
theorem pr_bls {H : Hp} : ∀ {vs : List V} {xs : List Bool}, Paired (rB.r H) vs xs → vs = xs.map V.bl
  | _, _, .nil => rfl
  | _, _, .cons r t => by rw [show _ = V.bl _ from r, pr_bls t]; rfl
theorem rc_all : RC (rAll K) (aC (rL rB) aN) rB (fun i => some (i.1.all id)) := fun vs i z H G hv hz e Q q => by
  cases hz
  obtain ⟨v, ws, rfl, ⟨a, us, rfl, h2, h3⟩, rfl⟩ := hv
  have := pr_bls h3
  subst this
  exact ⟨a, i.1, rfl, Or.inl (Or.inl (e a _ h2)), q _ H G (Up.refl e) rfl⟩
theorem rc_any : RC (rAny K) (aC (rL rB) aN) rB (fun i => some (i.1.any id)) := fun vs i z H G hv hz e Q q => by
  cases hz
  obtain ⟨v, ws, rfl, ⟨a, us, rfl, h2, h3⟩, rfl⟩ := hv
  have := pr_bls h3
  subst this
  exact ⟨a, i.1, rfl, Or.inl (Or.inl (e a _ h2)), q _ H G (Up.refl e) rfl⟩
theorem e_methB {l C : Addr} {ns : List Str} {fl : α → List Pd} {to : TE} {κ : Type} {B : Rep κ} {m : Option α} {mi : Option ι} {me : Str} {ad : α × ι → Addr} {f : List κ → α × ι → Option γ} {ys : List κ} {X : XK} (h : E to σ G W (rObj C ns fl) m) (ha : EA ta σ G W A mi) (L : Lent G W l B ys) (hi : ns.contains me = false) (hl : ∀ o i, mi = some i → ad (o, i) = l) :
    E (tMeth C me (PB (aC (rObj C ns fl) A) ad B T f) [] X to ta) σ G W T (m >>= fun o => mi >>= fun i => f ys (o, i)) := fun z hz H e e' Q q => by
  obtain ⟨x, hx, hz⟩ := bindS hz
  obtain ⟨y, hy, hz⟩ := bindS hz
  refine h x hx H e e' _ fun v H1 G1 u r => ?_
  obtain ⟨a, dx, fs, rfl, h2, h3⟩ := r
  refine ⟨a, dx, fs, rfl, u.gh a _ h2, look_no h3.1 hi, ?_⟩
  refine (ha.mono u.gg (e'.trans u.hh)) y hy H1 u.gh (Ex.refl _) _ fun vs H3 G3 u3 r3 => ?_
  rw [List.append_nil]
  have := hl x y hy
  subst this
  exact ⟨G3, (x, y), ys, z, u3.gh, ⟨.ref a, vs, rfl, ⟨a, dx, fs, rfl, u3.gg a _ h2, h3.mono u3.gg⟩, r3⟩, L.up e' (u.trans u3), hz, fun v H4 G4 u4 r4 => q v H4 G4 ((u.trans u3).trans u4) r4⟩
end
end Sim

set_option maxHeartbeats 4000000
namespace My
open PySem PySem.Spec PyProof.Rows L2 Sim
def top (i : Nat) : Stmt := PySem.Challenge.pw_askedpoints_k07_joins_of_lists.main.body.getD i (.Pass ⟨0, 0, 0, 0⟩)
abbrev s__wall : Stmt := top 0
abbrev s_closure : Stmt := top 9
abbrev s_turned : Stmt := top 10
abbrev s_least_above : Stmt := top 11
abbrev s_bounds_table : Stmt := top 12
abbrev s_first_ring : Stmt := top 13
abbrev s_first_lack : Stmt := top 14
abbrev s_longest : Stmt := top 15
abbrev s_neighbours : Stmt := top 16
abbrev s_Order___init__ : Stmt := inClass (top 18) 1
abbrev s_Order_chain : Stmt := inClass (top 18) 2
abbrev s_Order_flat : Stmt := inClass (top 18) 3
abbrev s_Order_marks : Stmt := inClass (top 18) 4
abbrev s_Order__require : Stmt := inClass (top 18) 5
abbrev s_Order_below : Stmt := inClass (top 18) 6
abbrev s_Order_join_of : Stmt := inClass (top 18) 7
abbrev s_Order_meet_of : Stmt := inClass (top 18) 8
abbrev s_Order_join_all : Stmt := inClass (top 18) 9
abbrev s_Order_meet_all : Stmt := inClass (top 18) 10
abbrev s_Order_covers : Stmt := inClass (top 18) 11
abbrev s_Order_least : Stmt := inClass (top 18) 12
abbrev s_Order_greatest : Stmt := inClass (top 18) 13
abbrev s_Order_height : Stmt := inClass (top 18) 14
abbrev s_Order___len__ : Stmt := inClass (top 18) 15
abbrev s_Order___contains__ : Stmt := inClass (top 18) 16
abbrev s_Order___iter__ : Stmt := inClass (top 18) 17
abbrev s_Order___eq__ : Stmt := inClass (top 18) 18
abbrev s_Order___mul__ : Stmt := inClass (top 18) 19
abbrev s_Order___add__ : Stmt := inClass (top 18) 20
abbrev s_Order___invert__ : Stmt := inClass (top 18) 21
abbrev s__law_pot : Stmt := top 20
abbrev s__law_draw : Stmt := top 21
abbrev s__law_int : Stmt := top 22
abbrev s__law_masks : Stmt := top 23
abbrev s__law_under : Stmt := top 24
abbrev s__law_pairs : Stmt := top 25
abbrev s__law_joins_list : Stmt := top 26
abbrev s__law_meets_list : Stmt := top 27
abbrev s__law_list_refused : Stmt := top 28
abbrev s_law : Stmt := top 29
def d_closure : He.DefD := ⟨("closure", none), "closure", "closure", defArgs s_closure, defBody s_closure, defScope s_closure, [], []⟩
def d_turned : He.DefD := ⟨("turned", none), "turned", "turned", defArgs s_turned, defBody s_turned, defScope s_turned, [], []⟩
def d_least_above : He.DefD := ⟨("least_above", none), "least_above", "least_above", defArgs s_least_above, defBody s_least_above, defScope s_least_above, [], []⟩
def d_bounds_table : He.DefD := ⟨("bounds_table", none), "bounds_table", "bounds_table", defArgs s_bounds_table, defBody s_bounds_table, defScope s_bounds_table, [], []⟩
def d_first_ring : He.DefD := ⟨("first_ring", none), "first_ring", "first_ring", defArgs s_first_ring, defBody s_first_ring, defScope s_first_ring, [], []⟩
def d_first_lack : He.DefD := ⟨("first_lack", none), "first_lack", "first_lack", defArgs s_first_lack, defBody s_first_lack, defScope s_first_lack, [], []⟩
def d_longest : He.DefD := ⟨("longest", none), "longest", "longest", defArgs s_longest, defBody s_longest, defScope s_longest, [], []⟩
def d_neighbours : He.DefD := ⟨("neighbours", none), "neighbours", "neighbours", defArgs s_neighbours, defBody s_neighbours, defScope s_neighbours, [], []⟩
def d_Order___init__ : He.DefD := ⟨("Order", some "__init__"), "__init__", "Order.__init__", defArgs s_Order___init__, defBody s_Order___init__, defScope s_Order___init__, [], []⟩
def d_Order__require : He.DefD := ⟨("Order", some "_require"), "_require", "Order._require", defArgs s_Order__require, defBody s_Order__require, defScope s_Order__require, [], []⟩
def d_Order_below : He.DefD := ⟨("Order", some "below"), "below", "Order.below", defArgs s_Order_below, defBody s_Order_below, defScope s_Order_below, [], []⟩
def d_Order_join_of : He.DefD := ⟨("Order", some "join_of"), "join_of", "Order.join_of", defArgs s_Order_join_of, defBody s_Order_join_of, defScope s_Order_join_of, [], []⟩
def d_Order_meet_of : He.DefD := ⟨("Order", some "meet_of"), "meet_of", "Order.meet_of", defArgs s_Order_meet_of, defBody s_Order_meet_of, defScope s_Order_meet_of, [], []⟩
def d_Order_join_all : He.DefD := ⟨("Order", some "join_all"), "join_all", "Order.join_all", defArgs s_Order_join_all, defBody s_Order_join_all, defScope s_Order_join_all, [], []⟩
def d_Order_meet_all : He.DefD := ⟨("Order", some "meet_all"), "meet_all", "Order.meet_all", defArgs s_Order_meet_all, defBody s_Order_meet_all, defScope s_Order_meet_all, [], []⟩
def d__law_pot : He.DefD := ⟨("_law_pot", none), "_law_pot", "_law_pot", defArgs s__law_pot, defBody s__law_pot, defScope s__law_pot, [], []⟩
def d__law_draw : He.DefD := ⟨("_law_draw", none), "_law_draw", "_law_draw", defArgs s__law_draw, defBody s__law_draw, defScope s__law_draw, [], []⟩
def d__law_int : He.DefD := ⟨("_law_int", none), "_law_int", "_law_int", defArgs s__law_int, defBody s__law_int, defScope s__law_int, [], []⟩
def d__law_masks : He.DefD := ⟨("_law_masks", none), "_law_masks", "_law_masks", defArgs s__law_masks, defBody s__law_masks, defScope s__law_masks, [], []⟩
def d__law_under : He.DefD := ⟨("_law_under", none), "_law_under", "_law_under", defArgs s__law_under, defBody s__law_under, defScope s__law_under, [], []⟩
def d__law_pairs : He.DefD := ⟨("_law_pairs", none), "_law_pairs", "_law_pairs", defArgs s__law_pairs, defBody s__law_pairs, defScope s__law_pairs, [], []⟩
def d__law_joins_list : He.DefD := ⟨("_law_joins_list", none), "_law_joins_list", "_law_joins_list", defArgs s__law_joins_list, defBody s__law_joins_list, defScope s__law_joins_list, [], []⟩
def d__law_meets_list : He.DefD := ⟨("_law_meets_list", none), "_law_meets_list", "_law_meets_list", defArgs s__law_meets_list, defBody s__law_meets_list, defScope s__law_meets_list, [], []⟩
def d__law_list_refused : He.DefD := ⟨("_law_list_refused", none), "_law_list_refused", "_law_list_refused", defArgs s__law_list_refused, defBody s__law_list_refused, defScope s__law_list_refused, [], []⟩
def d_law : He.DefD := ⟨("law", none), "law", "law", defArgs s_law, defBody s_law, defScope s_law, [], []⟩
def fn : List He.DefD := [d_closure, d_turned, d_least_above, d_bounds_table, d_first_ring, d_first_lack, d_longest, d_neighbours, d_Order___init__, d_Order__require, d_Order_below, d_Order_join_of, d_Order_meet_of, d_Order_join_all, d_Order_meet_all, d__law_pot, d__law_draw, d__law_int, d__law_masks, d__law_under, d__law_pairs, d__law_joins_list, d__law_meets_list, d__law_list_refused, d_law]
def fa : List He.Fa := [.glo "_wall", .glo "AskedError", .glo "BadSize", .glo "NotElement", .glo "Ring", .glo "NoJoin", .glo "NoMeet", .glo "closure", .glo "turned", .glo "least_above", .glo "bounds_table", .glo "first_ring", .glo "first_lack", .glo "longest", .glo "neighbours", .glo "Order", .glo "_law_pot", .glo "_law_draw", .glo "_law_int", .glo "_law_masks", .glo "_law_under", .glo "_law_pairs", .glo "_law_joins_list", .glo "_law_meets_list", .glo "_law_list_refused", .glo "law", .free "super", .free "range", .free "len", .free "max", .free "list", .free "min", .free "abs", .free "int", .free "sorted", .free "isinstance", .free "bool", .free "all", .cls "Order", .noat "Order" "_above", .noat "Order" "_joins", .noat "Order" "_meets", .noat "Order" "_members", .noat "Order" "_height", .meth "Order" "_require", .meth "Order" "join_of", .meth "Order" "meet_of", .meth "Order" "join_all", .meth "Order" "meet_all", .mkr "Order"]
def ex : List (PySem.W.Frag → Bool) := [fun K => He.conB K "Order" "MOST" (.int 12), xsB ["NotElement"], xnB ["NotElement"] ["value"], xaB ["NotElement"] "NotElement" true, noB "NotElement" "value"]
def P : Program := (PySem.Challenge.rw_askedpoints_k07_joins_of_lists).prog
abbrev s_NotElement___init__ : Stmt := inClass (top 4) 0
def x_NotElement : XcD := ⟨"NotElement", "NotElement.__init__", defArgs s_NotElement___init__, defBody s_NotElement___init__, defScope s_NotElement___init__⟩
def xs : List XcD := [x_NotElement]
def g_Order_least : GeD := ⟨"Order", "least", "Order.least", defArgs s_Order_least, defBody s_Order_least, defScope s_Order_least⟩
def g_Order_greatest : GeD := ⟨"Order", "greatest", "Order.greatest", defArgs s_Order_greatest, defBody s_Order_greatest, defScope s_Order_greatest⟩
def gs : List GeD := [g_Order_least, g_Order_greatest]
abbrev Tx (K : PySem.W.Frag) (mg : Str → Option Value) : Prop := TxX fa fn ex xs gs P.main.file K mg
structure m_Order where
  f_above : (List (List Bool))
  f_joins : (List (List (Option Int)))
  f_meets : (List (List (Option Int)))
  f_members : (List Int)
  f_height : Int
abbrev ns_Order : List Str := ["_above", "_joins", "_meets", "_members", "_height"]
def fl_Order (K : PySem.W.Frag) (o : m_Order) : List Pd := [pd (rL (rL rB)) o.f_above, pd (rL (rL (rO rI))) o.f_joins, pd (rL (rL (rO rI))) o.f_meets, pd (rL rI) o.f_members, pd rI o.f_height]
abbrev r_Order (K : PySem.W.Frag) : Rep m_Order := rObj (He.ga K "Order") ns_Order (fl_Order K)
section
variable {w : World} {K : PySem.W.Frag} {mg : Str → Option Value} {base : Heap}
theorem fr_super (T : Tx K mg) : mg "super" = none := T.free 26 rfl
theorem fr_range (T : Tx K mg) : mg "range" = none := T.free 27 rfl
theorem fr_len (T : Tx K mg) : mg "len" = none := T.free 28 rfl
theorem fr_max (T : Tx K mg) : mg "max" = none := T.free 29 rfl
theorem fr_list (T : Tx K mg) : mg "list" = none := T.free 30 rfl
theorem fr_min (T : Tx K mg) : mg "min" = none := T.free 31 rfl
theorem fr_abs (T : Tx K mg) : mg "abs" = none := T.free 32 rfl
theorem fr_int (T : Tx K mg) : mg "int" = none := T.free 33 rfl
theorem fr_sorted (T : Tx K mg) : mg "sorted" = none := T.free 34 rfl
theorem fr_isinstance (T : Tx K mg) : mg "isinstance" = none := T.free 35 rfl
theorem fr_bool (T : Tx K mg) : mg "bool" = none := T.free 36 rfl
theorem fr_all (T : Tx K mg) : mg "all" = none := T.free 37 rfl
theorem ns_NotElement : NdefX.NScope ["self", "value", "__class__"] ["self", "value"] ["__class__"] (defScope s_NotElement___init__) := NdefX.nscope_by (by decide +kernel)
theorem known_NotElement (T : Tx K mg) : XcK P K mg x_NotElement := XcD.known (T.xc 0 rfl).1 (T.xc 0 rfl).2 (fr_super T) (by decide +kernel) (by decide +kernel) (by decide +kernel) rfl (by decide +kernel)
theorem okx_NotElement (T : Tx K mg) : ∃ fd, Binds K fd ["self", "value"] [] ∧ FnOk P w K mg base CX0 1 (xcAd K "NotElement") fd ["self", "value"] (spX (He.ga K "NotElement") ["value"]) := by
  obtain ⟨fd, cc, c, Z⟩ := (known_NotElement T).ex
  refine ⟨fd, ?_, ?_⟩
  · obtain ⟨oc, od, osl, kV, doc, pm, an, ct, rfl, lk⟩ := Z.lk
    exact .all fun us hl => match us, hl with | [_, _], _ => rfl
  · refine xinit (F := ⟨"__init__", x_NotElement.qual, x_NotElement.params, x_NotElement.body, x_NotElement.scope, [("__class__", cc)], c⟩) (fi := [("value", 1)]) ns_NotElement Z rfl (fun _ => rfl) (fun _ => rfl) (fun f hf => ?_) rfl (fun a ws h => ?_) (fun A outer s H E => ?_)
    · simp only [List.mem_cons, List.not_mem_nil, or_false] at hf
      rcases hf with rfl
      · exact noB_ok (T.mo 4 rfl)
    · match ws, h with
      | [y1], _ => exact ⟨("value", 1, y1), [], by simp, rfl, rfl, by simp [NdefX.startF]⟩
    · exact pss_cons (ps_ost (pe_var (i := 0) rfl (Or.inl rfl)) (pe_var (i := 1) rfl (Or.inl rfl))) (pss_nil)
def m_closure_b1 (size0 : Int) (x34 : (Int × Int)) (s23 : (List Bool)) : Option (List Bool) :=
  (some true >>= fun a47 => (mulM x34.1 size0 >>= fun t46 => some (t46 + x34.2)) >>= fun i48 => setM s23 i48 a47 >>= fun cells_49 => some (cells_49))
def m_closure_b2 (size0 : Int) (x117 : Int) (s103 : (List (List Bool))) : Option (List (List Bool)) :=
  ((rngM 0 size0 >>= fun xs137 => mapS (fun x124 => (rngM 0 size0 >>= fun xs136 => mapS (fun x130 => (orO ((atI s103 x124 >>= fun t133 => atI t133 x130)) ((andO ((atI s103 x124 >>= fun t134 => atI t134 x117)) ((atI s103 x117 >>= fun t135 => atI t135 x130)))))) xs136)) xs137) >>= fun rows_138 => some (rows_138))
def m_closure (size0 : Int) (pairs0 : (List (Int × Int))) : Option (List (List Bool)) :=
  ((mulM size0 size0 >>= fun t8 => (rngM 0 t8 >>= fun xs7 => mapS (fun x4 => some false) xs7)) >>= fun cells_9 => (some pairs0 >>= fun xs18 => forS (m_closure_b1 size0) xs18 cells_9 >>= fun s23 => ((rngM 0 size0 >>= fun xs85 => mapS (fun x73 => (rngM 0 size0 >>= fun xs84 => mapS (fun x79 => (orO (some (x73 == x79)) (((mulM x73 size0 >>= fun t82 => some (t82 + x79)) >>= fun t83 => atI s23 t83)))) xs84)) xs85) >>= fun rows_86 => (some size0 >>= fun n96 => rngM 0 n96 >>= fun xs98 => forS (m_closure_b2 size0) xs98 rows_86 >>= fun s103 => (some s103 >>= fun a156 => some a156)))))
theorem sc_closure : FnScope ["size", "pairs", "cells", "rows", "m", "low", "high", "_", "a", "b"] ["size", "pairs"] (defScope s_closure) := ⟨rfl, rfl, rfl, by decide +kernel, rfl, by decide +kernel, by decide +kernel⟩
theorem ok_closure (T : Tx K mg) : Fk P w K mg base CX0 1 "closure" ["size", "pairs"] (PF (aC rI (aC (rL (rP rI rI)) aN)) (rL (rL rB)) (fun i => m_closure i.1 i.2.1)) := by
  obtain ⟨fd, F⟩ := T.def_ 0 rfl
  have nd := sc_closure.nd
  refine fk_mk T.toTx (x := "closure") (T.glo 7 rfl) F (fun _ _ _ _ _ _ us hl => match us, hl with | [_, _], _ => rfl) (F.ok sc_closure (fun vs H Q E h => ?_) (fun cdv A outer s H vs Q E hr h => ?_))
  · obtain ⟨G, ⟨size0, pairs0, ⟨⟩⟩, r, e0, ⟨vsize0, _, rfl, hsize0, vpairs0, _, rfl, hpairs0, rfl⟩, h, k⟩ := h
    rfl
  · obtain ⟨G, ⟨size0, pairs0, ⟨⟩⟩, r, e0, ⟨vsize0, _, rfl, hsize0, vpairs0, _, rfl, hpairs0, rfl⟩, h, k⟩ := h
    cases hsize0
    have w0 := Wo.start e0
    have h : m_closure size0 pairs0 = some r := h
    unfold m_closure at h
    refine ⟨_, PSs.nox (pss_cons (ps_set (i := 2) nd rfl (Or.inr rfl) (pe_lc (own := [("_", 7)]) (by rfl) nd (pi_range1 (by rfl) (fr_range T) (pa_cons (pe_op op_mul (pv 0) (pv 0)) pa_nil)) (blkOk_by (by kernel_rfl)) (fun _ _ _ _ _ => pg_name (i := 7) nd rfl (by first | exact Or.inl rfl | exact Or.inr rfl)) (fun _ _ _ _ _ => pts_nil) (fun _ _ _ _ _ => pe_bl))) (pss_cons (ps_for PassesOwn.never rfl (pi_list (pv 1)) (pg_tup (by rfl) (pgs_cons (pg_name (i := 5) nd rfl (by first | exact Or.inl rfl | exact Or.inr rfl)) (pgs_cons (pg_name (i := 6) nd rfl (by first | exact Or.inl rfl | exact Or.inr rfl)) pgs_nil))) (pss_cons (ps_asg pe_bl (pg_sub (pv 2) (pe_op op_add (pe_op op_mul (pv 5) (pv 0)) (pv 6)) set_list)) pss_nil)) (pss_cons (ps_set (i := 3) nd rfl (Or.inr rfl) (pe_lc (own := [("a", 8)]) (by rfl) nd (pi_range1 (by rfl) (fr_range T) (pa_cons (pv 0) pa_nil)) (blkOk_by (by kernel_rfl)) (fun _ _ _ _ _ => pg_name (i := 8) nd rfl (by first | exact Or.inl rfl | exact Or.inr rfl)) (fun _ _ _ _ _ => pts_nil) (fun _ _ _ _ _ => (pe_lc (own := [("b", 9)]) (by rfl) nd (pi_range1 (by rfl) (fr_range T) (pa_cons (pv 0) pa_nil)) (blkOk_by (by kernel_rfl)) (fun _ _ _ _ _ => pg_name (i := 9) nd rfl (by first | exact Or.inl rfl | exact Or.inr rfl)) (fun _ _ _ _ _ => pts_nil) (fun _ _ _ _ _ => (pe_or (pe_cmpR op_eq (pv 8) (pv 9) (nomark _)) (pe_one (pe_ix (r := rIxL K) ix_list (pv 2) (pe_op op_add (pe_op op_mul (pv 8) (pv 0)) (pv 9)) (fun _ _ => rfl))))))))) (pss_cons (ps_for PassesOwn.never rfl (pi_range1 (by rfl) (fr_range T) (pa_cons (pv 0) pa_nil)) (pg_name (i := 4) nd rfl (Or.inr rfl)) (pss_cons (ps_set (i := 3) nd rfl (Or.inr rfl) (pe_lc (own := [("a", 8)]) (by rfl) nd (pi_range1 (by rfl) (fr_range T) (pa_cons (pv 0) pa_nil)) (blkOk_by (by kernel_rfl)) (fun _ _ _ _ _ => pg_name (i := 8) nd rfl (by first | exact Or.inl rfl | exact Or.inr rfl)) (fun _ _ _ _ _ => pts_nil) (fun _ _ _ _ _ => (pe_lc (own := [("b", 9)]) (by rfl) nd (pi_range1 (by rfl) (fr_range T) (pa_cons (pv 0) pa_nil)) (blkOk_by (by kernel_rfl)) (fun _ _ _ _ _ => pg_name (i := 9) nd rfl (by first | exact Or.inl rfl | exact Or.inr rfl)) (fun _ _ _ _ _ => pts_nil) (fun _ _ _ _ _ => (pe_or (pe_ix (r := rIxL K) ix_list (pe_ix (r := rIxL K) ix_list (pv 3) (pv 8) (fun _ _ => rfl)) (pv 9) (fun _ _ => rfl)) (pe_one (pe_and (pe_ix (r := rIxL K) ix_list (pe_ix (r := rIxL K) ix_list (pv 3) (pv 8) (fun _ _ => rfl)) (pv 4) (fun _ _ => rfl)) (pe_one (pe_ix (r := rIxL K) ix_list (pe_ix (r := rIxL K) ix_list (pv 3) (pv 4) (fun _ _ => rfl)) (pv 9) (fun _ _ => rfl))))))))))) pss_nil)) (pss_cons (ps_ret (pv 3)) pss_nil))))), ?_⟩
    obtain ⟨cells_9, hx10, h⟩ := bindS h
    refine x_setL w0 (el_mapR (el_lcR (j := 7) (ea_cons (e_op rr_mul (e_var (R := rI) (x := size0) rfl rfl) (e_var (R := rI) (x := size0) rfl rfl)) ea_nil) (fun _ => rfl) (fun _ _ _ _ _ _ => et_yes) (fun x4 G5 W6 eG1 eW2 eX3 => e_bl))) (by first | exact hx10 | (simp only [Option.bind_eq_bind, Option.bind_some, Option.bind_assoc] at hx10 ⊢; exact hx10)) ?_
    intro p13 H11 G14 n15 w12 e16
    have h17 := Rep.mono _ e16 hpairs0
    obtain ⟨xs18, hx19, h⟩ := bindS h
    obtain ⟨t21, hx22, h⟩ := bindS h
    refine x_forL w12 (e_var (R := (rL (rP rI rI))) (x := pairs0) rfl h17) hx19 (fun i G' H' σ' => ∃ s23 : (List Bool), ∃ u24 : Option V, ∃ u25 : Option V, Wo G H [] G' H' [(p13, cL rB s23)] ∧ Evl.Ex G14 G' ∧ σ' = [some (V.int size0), some vpairs0, some (V.ref p13), none, none, u25, u24, none, none, none] ∧ forS (m_closure_b1 size0) (xs18.drop i) s23 = some t21) (fun _ _ _ _ ⟨_, _, _, w, _⟩ => w.ex) ?_ ?_ ?_
    · intro G' H' w' e'
      exact ⟨cells_9, (none), (none), w', e', rfl, hx22⟩
    · rintro G36 e37 i33 x34 v38 σ' G29 H32 hx35 e40 ⟨s23, u24, u25, w30, e31, rfl, hm27⟩ r39
      obtain ⟨q28, hb26, hm27⟩ := forS_at hx35 hm27
      have h41 := Rep.mono _ e31 h17
      refine g_pair (i := 5) (j := 6) r39 w30.ex ?_
      intro v42 v43 r44 r45
      cases r44
      cases r45
      unfold m_closure_b1 at hb26
      obtain ⟨a47, hx50, hb26⟩ := bindS hb26
      obtain ⟨i48, hx51, hb26⟩ := bindS hb26
      obtain ⟨cells_49, hx52, hb26⟩ := bindS hb26
      refine x_setIx (j := 0) w30 rfl rfl e_bl (by first | exact hx50 | (simp only [Option.bind_eq_bind, Option.bind_some, Option.bind_assoc] at hx50 ⊢; exact hx50)) (e_op rr_add (e_op rr_mul (e_var (R := rI) (x := x34.1) rfl rfl) (e_var (R := rI) (x := size0) rfl rfl)) (e_var (R := rI) (x := x34.2) rfl rfl)) (by first | exact hx51 | (simp only [Option.bind_eq_bind, Option.bind_some, Option.bind_assoc] at hx51 ⊢; exact hx51)) hx52 ?_
      intro H53 G54 w55 e56
      have h57 := Rep.mono _ e56 h41
      have w55 : Wo G H [] G54 H53 [(p13, cL rB cells_49)] := w55
      refine x_next ?_
      have hb26 : cells_49 = q28 := Option.some.inj hb26
      subst hb26
      exact ⟨G54, (e40.trans e56), cells_49, (some (V.int x34.2)), (some (V.int x34.1)), w55, (e31.trans e56), rfl, hm27⟩
    · rintro σ' G58 H61 e62 ⟨s23, u24, u25, w59, e60, rfl, hm27⟩
      have hm27 := forS_end hm27
      subst hm27
      have h64 := Rep.mono _ e60 h17
      obtain ⟨G65, w66, e67, h68⟩ := w59.freezeAt (i := 0) rfl n15
      have h69 := Rep.mono _ e67 h64
      have w66 : Wo G H [] G65 H61 [] := w66
      obtain ⟨rows_86, hx87, h⟩ := bindS h
      refine x_set w66 (EL.e (el_mapR (el_lcR (j := 8) (ea_cons (e_var (R := rI) (x := size0) rfl rfl) ea_nil) (fun _ => rfl) (fun _ _ _ _ _ _ => et_yes) (fun x73 G74 W75 eG70 eW71 eX72 => (EL.e (el_mapR (el_lcR (j := 9) (ea_cons (e_var (R := rI) (x := size0) rfl rfl) ea_nil) (fun _ => rfl) (fun _ _ _ _ _ _ => et_yes) (fun x79 G80 W81 eG76 eW77 eX78 => (e_orV (e_op rr_eqI (e_var (R := rI) (x := x73) rfl rfl) (e_var (R := rI) (x := x79) rfl rfl)) (e_op rr_ixL (e_var (R := (rL rB)) (x := s23) rfl (Rep.mono _ eG76 (Rep.mono _ eG70 h68))) (e_op rr_add (e_op rr_mul (e_var (R := rI) (x := x73) rfl rfl) (e_var (R := rI) (x := size0) rfl rfl)) (e_var (R := rI) (x := x79) rfl rfl)))))))))))) (by first | exact hx87 | (simp only [Option.bind_eq_bind, Option.bind_some, Option.bind_assoc] at hx87 ⊢; exact hx87)) ?_
      intro v90 H88 G91 w89 e92 h93
      have h94 := Rep.mono _ e92 h69
      have h95 := Rep.mono _ e92 h68
      obtain ⟨n96, hx97, h⟩ := bindS h
      obtain ⟨xs98, hx99, h⟩ := bindS h
      obtain ⟨t101, hx102, h⟩ := bindS h
      refine x_forR w89 (ea_cons (Sim.E.is (e_var (R := rI) (x := size0) rfl rfl) hx97) ea_nil) rfl hx99 (fun i G' H' σ' => ∃ s103 : (List (List Bool)), ∃ v104 : V, ∃ u106 : Option V, ∃ u107 : Option V, ∃ u108 : Option V, Wo G H [] G' H' [] ∧ Evl.Ex G91 G' ∧ σ' = [some (V.int size0), some vpairs0, some (V.ref p13), some v104, u108, u25, u24, none, u106, u107] ∧ (rL (rL rB)).r G' v104 s103 ∧ forS (m_closure_b2 size0) (xs98.drop i) s103 = some t101) ?_ ?_ ?_
      · intro G' H' w' e'
        exact ⟨rows_86, v90, (none), (none), (none), w', e', rfl, (Rep.mono _ e' h93), hx102⟩
      · rintro i116 x117 σ' G112 H115 hx118 ⟨s103, v104, u106, u107, u108, w113, e114, rfl, h105, hm110⟩
        obtain ⟨q111, hb109, hm110⟩ := forS_at hx118 hm110
        have h119 := Rep.mono _ e114 h94
        have h120 := Rep.mono _ e114 h95
        refine g_name ?_
        unfold m_closure_b2 at hb109
        obtain ⟨rows_138, hx139, hb109⟩ := bindS hb109
        refine x_set w113 (EL.e (el_mapR (el_lcR (j := 8) (ea_cons (e_var (R := rI) (x := size0) rfl rfl) ea_nil) (fun _ => rfl) (fun _ _ _ _ _ _ => et_yes) (fun x124 G125 W126 eG121 eW122 eX123 => (EL.e (el_mapR (el_lcR (j := 9) (ea_cons (e_var (R := rI) (x := size0) rfl rfl) ea_nil) (fun _ => rfl) (fun _ _ _ _ _ _ => et_yes) (fun x130 G131 W132 eG127 eW128 eX129 => (e_orV (e_op rr_ixL (e_op rr_ixL (e_var (R := (rL (rL rB))) (x := s103) rfl (Rep.mono _ eG127 (Rep.mono _ eG121 h105))) (e_var (R := rI) (x := x124) rfl rfl)) (e_var (R := rI) (x := x130) rfl rfl)) (e_andV (e_op rr_ixL (e_op rr_ixL (e_var (R := (rL (rL rB))) (x := s103) rfl (Rep.mono _ eG127 (Rep.mono _ eG121 h105))) (e_var (R := rI) (x := x124) rfl rfl)) (e_var (R := rI) (x := x117) rfl rfl)) (e_op rr_ixL (e_op rr_ixL (e_var (R := (rL (rL rB))) (x := s103) rfl (Rep.mono _ eG127 (Rep.mono _ eG121 h105))) (e_var (R := rI) (x := x117) rfl rfl)) (e_var (R := rI) (x := x130) rfl rfl)))))))))))) (by first | exact hx139 | (simp only [Option.bind_eq_bind, Option.bind_some, Option.bind_assoc] at hx139 ⊢; exact hx139)) ?_
        intro v142 H140 G143 w141 e144 h145
        have h146 := Rep.mono _ e144 h119
        have h147 := Rep.mono _ e144 h120
        have h148 := Rep.mono _ e144 h105
        refine x_next ?_
        have hb109 : rows_138 = q111 := Option.some.inj hb109
        subst hb109
        exact ⟨G143, rows_138, v142, (u106), (u107), (some (V.int x117)), w141, (e114.trans e144), rfl, h145, hm110⟩
      · rintro σ' G149 H152 ⟨s103, v104, u106, u107, u108, w150, e151, rfl, h105, hm110⟩
        have hm110 := forS_end hm110
        subst hm110
        have h154 := Rep.mono _ e151 h94
        have h155 := Rep.mono _ e151 h95
        obtain ⟨a156, hx157, h⟩ := bindS h
        have h : a156 = r := Option.some.inj h
        subst h
        exact x_ret w150 (e_var (R := (rL (rL rB))) (x := s103) rfl h105) hx157 (fun v9 H9 G9 w9 e9 r9 => k v9 H9 G9 w9.upE r9)
def m_turned (rows0 : (List (List Bool))) : Option (List (List Bool)) :=
  ((rngM 0 (rows0.length : Int) >>= fun xs172 => mapS (fun x161 => (rngM 0 (rows0.length : Int) >>= fun xs171 => mapS (fun x167 => (atI rows0 x167 >>= fun t170 => atI t170 x161)) xs171)) xs172) >>= fun a173 => some a173)
theorem sc_turned : FnScope ["rows", "a", "b"] ["rows"] (defScope s_turned) := ⟨rfl, rfl, rfl, by decide +kernel, rfl, by decide +kernel, by decide +kernel⟩
theorem ok_turned (T : Tx K mg) : Fk P w K mg base CX0 1 "turned" ["rows"] (PF (aC (rL (rL rB)) aN) (rL (rL rB)) (fun i => m_turned i.1)) := by
  obtain ⟨fd, F⟩ := T.def_ 1 rfl
  have nd := sc_turned.nd
  refine fk_mk T.toTx (x := "turned") (T.glo 8 rfl) F (fun _ _ _ _ _ _ us hl => match us, hl with | [_], _ => rfl) (F.ok sc_turned (fun vs H Q E h => ?_) (fun cdv A outer s H vs Q E hr h => ?_))
  · obtain ⟨G, ⟨rows0, ⟨⟩⟩, r, e0, ⟨vrows0, _, rfl, hrows0, rfl⟩, h, k⟩ := h
    rfl
  · obtain ⟨G, ⟨rows0, ⟨⟩⟩, r, e0, ⟨vrows0, _, rfl, hrows0, rfl⟩, h, k⟩ := h
    have w0 := Wo.start e0
    have h : m_turned rows0 = some r := h
    unfold m_turned at h
    refine ⟨_, PSs.nox (pss_cons (ps_ret (pe_lc (own := [("a", 1)]) (by rfl) nd (pi_range1 (by rfl) (fr_range T) (pa_cons (pe_callB (r := rLn K) call_len_seq (by rfl) (fr_len T) (by decide +kernel) (pa_cons (pv 0) pa_nil)) pa_nil)) (blkOk_by (by kernel_rfl)) (fun _ _ _ _ _ => pg_name (i := 1) nd rfl (by first | exact Or.inl rfl | exact Or.inr rfl)) (fun _ _ _ _ _ => pts_nil) (fun _ _ _ _ _ => (pe_lc (own := [("b", 2)]) (by rfl) nd (pi_range1 (by rfl) (fr_range T) (pa_cons (pe_callB (r := rLn K) call_len_seq (by rfl) (fr_len T) (by decide +kernel) (pa_cons (pv 0) pa_nil)) pa_nil)) (blkOk_by (by kernel_rfl)) (fun _ _ _ _ _ => pg_name (i := 2) nd rfl (by first | exact Or.inl rfl | exact Or.inr rfl)) (fun _ _ _ _ _ => pts_nil) (fun _ _ _ _ _ => (pe_ix (r := rIxL K) ix_list (pe_ix (r := rIxL K) ix_list (pv 0) (pv 2) (fun _ _ => rfl)) (pv 1) (fun _ _ => rfl))))))) pss_nil), ?_⟩
    obtain ⟨a173, hx174, h⟩ := bindS h
    have h : a173 = r := Option.some.inj h
    subst h
    exact x_ret w0 (EL.e (el_mapR (el_lcR (j := 1) (ea_cons (e_cb rc_lenL (ea_cons (e_var (R := (rL (rL rB))) (x := rows0) rfl hrows0) ea_nil)) ea_nil) (fun _ => rfl) (fun _ _ _ _ _ _ => et_yes) (fun x161 G162 W163 eG158 eW159 eX160 => (EL.e (el_mapR (el_lcR (j := 2) (ea_cons (e_cb rc_lenL (ea_cons (e_var (R := (rL (rL rB))) (x := rows0) rfl (Rep.mono _ eG158 hrows0)) ea_nil)) ea_nil) (fun _ => rfl) (fun _ _ _ _ _ _ => et_yes) (fun x167 G168 W169 eG164 eW165 eX166 => (e_op rr_ixL (e_op rr_ixL (e_var (R := (rL (rL rB))) (x := rows0) rfl (Rep.mono _ eG164 (Rep.mono _ eG158 hrows0))) (e_var (R := rI) (x := x167) rfl rfl)) (e_var (R := rI) (x := x161) rfl rfl)))))))))) (by first | exact hx174 | (simp only [Option.bind_eq_bind, Option.bind_some, Option.bind_assoc] at hx174 ⊢; exact hx174)) (fun v9 H9 G9 w9 e9 r9 => k v9 H9 G9 w9.upE r9)
def m_least_above_b1 (rows0 : (List (List Bool))) (uppers_184 : (List Int)) (x209 : Int) (s198 : Unit) : Option (Stp Unit (Option Int)) :=
  (((lcS (fun x221 => (atI rows0 x209 >>= fun t226 => atI t226 x221)) (fun x221 => some x221) uppers_184 >>= fun t228 => some (t228.length : Int)) >>= fun t229 => some (t229 == (uppers_184.length : Int))) >>= fun b230 => bif b230 then (some (some x209) >>= fun a234 => some (Stp.rt a234)) else some (Stp.nx ()))
def m_least_above (rows0 : (List (List Bool))) (first0 : Int) (second0 : Int) : Option (Option Int) :=
  ((rngM 0 (rows0.length : Int) >>= fun xs183 => lcS (fun x178 => (andO ((atI rows0 first0 >>= fun t181 => atI t181 x178)) ((atI rows0 second0 >>= fun t182 => atI t182 x178)))) (fun x178 => some x178) xs183) >>= fun uppers_184 => (some uppers_184 >>= fun xs193 => forL (m_least_above_b1 rows0 uppers_184) xs193 () >>= Sum.elim (fun s198 => (some (none : (Option Int)) >>= fun a246 => some a246)) (fun r => some r)))
theorem sc_least_above : FnScope ["rows", "first", "second", "uppers", "found", "e"] ["rows", "first", "second"] (defScope s_least_above) := ⟨rfl, rfl, rfl, by decide +kernel, rfl, by decide +kernel, by decide +kernel⟩
theorem ok_least_above (T : Tx K mg) : Fk P w K mg base CX0 1 "least_above" ["rows", "first", "second"] (PF (aC (rL (rL rB)) (aC rI (aC rI aN))) (rO rI) (fun i => m_least_above i.1 i.2.1 i.2.2.1)) := by
  obtain ⟨fd, F⟩ := T.def_ 2 rfl
  have nd := sc_least_above.nd
  refine fk_mk T.toTx (x := "least_above") (T.glo 9 rfl) F (fun _ _ _ _ _ _ us hl => match us, hl with | [_, _, _], _ => rfl) (F.ok sc_least_above (fun vs H Q E h => ?_) (fun cdv A outer s H vs Q E hr h => ?_))
  · obtain ⟨G, ⟨rows0, first0, second0, ⟨⟩⟩, r, e0, ⟨vrows0, _, rfl, hrows0, vfirst0, _, rfl, hfirst0, vsecond0, _, rfl, hsecond0, rfl⟩, h, k⟩ := h
    rfl
  · obtain ⟨G, ⟨rows0, first0, second0, ⟨⟩⟩, r, e0, ⟨vrows0, _, rfl, hrows0, vfirst0, _, rfl, hfirst0, vsecond0, _, rfl, hsecond0, rfl⟩, h, k⟩ := h
    cases hfirst0
    cases hsecond0
    have w0 := Wo.start e0
    have h : m_least_above rows0 first0 second0 = some r := h
    unfold m_least_above at h
    refine ⟨_, PSs.nox (pss_cons (ps_setLc (i := 3) (own := [("e", 5)]) (by rfl) nd rfl rfl (sw_true rfl rfl rfl (by decide +kernel)) (pi_range1 (by rfl) (fr_range T) (pa_cons (pe_callB (r := rLn K) call_len_seq (by rfl) (fr_len T) (by decide +kernel) (pa_cons (pv 0) pa_nil)) pa_nil)) (blkOk_by (by kernel_rfl)) (fun _ _ _ _ _ => pg_name (i := 5) nd rfl (by first | exact Or.inl rfl | exact Or.inr rfl)) (fun _ _ _ _ _ => pts_one (PW.pt (pw_and (pt_val (pe_ix (r := rIxL K) ix_list (pe_ix (r := rIxL K) ix_list (pv 0) (pv 1) (fun _ _ => rfl)) (pv 5) (fun _ _ => rfl))) (pw_and1 (pt_val (pe_ix (r := rIxL K) ix_list (pe_ix (r := rIxL K) ix_list (pv 0) (pv 2) (fun _ _ => rfl)) (pv 5) (fun _ _ => rfl))))))) (fun _ _ _ _ _ => (pv 5))) (pss_cons (ps_for PassesOwn.never rfl (pi_list (pv 3)) (pg_name (i := 4) nd rfl (Or.inr rfl)) (pss_cons (ps_if (pt_cmpR op_eq (pe_callB (r := rLn K) call_len_seq (by rfl) (fr_len T) (by decide +kernel) (pa_cons (pe_lc (own := [("e", 5)]) (by rfl) nd (show L2.PI _ _ _ (iList K _) from pi_list (pv 3)) (blkOk_by (by kernel_rfl)) (fun _ _ _ _ _ => pg_name (i := 5) nd rfl (by first | exact Or.inl rfl | exact Or.inr rfl)) (fun _ _ _ _ _ => pts_one (pt_val (pe_ix (r := rIxL K) ix_list (pe_ix (r := rIxL K) ix_list (pv 0) (pv 4) (fun _ _ => rfl)) (pv 5) (fun _ _ => rfl)))) (fun _ _ _ _ _ => (pv 5))) pa_nil)) (pe_callB (r := rLn K) call_len_seq (by rfl) (fr_len T) (by decide +kernel) (pa_cons (pv 3) pa_nil)) (nomark _)) (pss_cons (ps_ret (pv 4)) pss_nil) pss_nil) pss_nil)) (pss_cons (ps_ret pe_non) pss_nil))), ?_⟩
    obtain ⟨uppers_184, hx185, h⟩ := bindS h
    refine x_set w0 (EL.e (el_lcR (j := 5) (ea_cons (e_cb rc_lenL (ea_cons (e_var (R := (rL (rL rB))) (x := rows0) rfl hrows0) ea_nil)) ea_nil) (fun _ => rfl) (fun x178 G179 W180 eG175 eW176 eX177 => (et_and (et_B (e_op rr_ixL (e_op rr_ixL (e_var (R := (rL (rL rB))) (x := rows0) rfl (Rep.mono _ eX177 (Rep.mono _ eG175 hrows0))) (e_var (R := rI) (x := first0) rfl rfl)) (e_var (R := rI) (x := x178) rfl rfl))) (et_B (e_op rr_ixL (e_op rr_ixL (e_var (R := (rL (rL rB))) (x := rows0) rfl (Rep.mono _ eX177 (Rep.mono _ eG175 hrows0))) (e_var (R := rI) (x := second0) rfl rfl)) (e_var (R := rI) (x := x178) rfl rfl))))) (fun x178 G179 W180 eG175 eW176 eX177 => (e_var (R := rI) (x := x178) rfl rfl)))) (by first | exact hx185 | (simp only [Option.bind_eq_bind, Option.bind_some, Option.bind_assoc] at hx185 ⊢; exact hx185)) ?_
    intro v188 H186 G189 w187 e190 h191
    have h192 := Rep.mono _ e190 hrows0
    obtain ⟨xs193, hx194, h⟩ := bindS h
    obtain ⟨t196, hx197, h⟩ := bindS h
    refine x_forL w187 (e_var (R := (rL rI)) (x := uppers_184) rfl h191) hx194 (fun i G' H' σ' => ∃ s198 : Unit, ∃ u199 : Option V, ∃ u200 : Option V, Wo G H [] G' H' [] ∧ Evl.Ex G189 G' ∧ σ' = [some vrows0, some (V.int first0), some (V.int second0), some v188, u200, u199] ∧ forL (m_least_above_b1 rows0 uppers_184) (xs193.drop i) s198 = some t196) (fun _ _ _ _ ⟨_, _, _, w, _⟩ => w.ex) ?_ ?_ ?_
    · intro G' H' w' e'
      exact ⟨(), (none), (none), w', e', rfl, hx197⟩
    · rintro G211 e212 i208 x209 v213 σ' G204 H207 hx210 e215 ⟨s198, u199, u200, w205, e206, rfl, hm202⟩ r214
      obtain ⟨q203, hb201, hm202⟩ := forL_at hx210 hm202
      have h216 := Rep.mono _ e206 h192
      have h217 := Rep.mono _ e206 h191
      refine g_name ?_
      cases r214
      unfold m_least_above_b1 at hb201
      obtain ⟨b230, hx231, hb201⟩ := bindS hb201
      refine x_if w205 (et_T (e_op rr_eqI (e_cb rc_lenL (ea_cons (EL.e (el_lcL (j := 5) (e_var (R := (rL rI)) (x := uppers_184) rfl (Rep.mono _ w205.ex h217)) (fun _ => rfl) (fun x221 v224 G222 W223 eG218 eW219 eX220 h225 => (et_B (e_op rr_ixL (e_op rr_ixL (e_var (R := (rL (rL rB))) (x := rows0) rfl (Rep.mono _ eX220 (Rep.mono _ eG218 (Rep.mono _ w205.ex h216)))) (e_var (R := rI) (x := x209) rfl rfl)) (e_var (R := rI) (x := x221) rfl (Rep.mono _ eX220 h225))))) (fun x221 v224 G222 W223 eG218 eW219 eX220 h225 => (e_var (R := rI) (x := x221) rfl h225)))) ea_nil)) (e_cb rc_lenL (ea_cons (e_var (R := (rL rI)) (x := uppers_184) rfl (Rep.mono _ w205.ex h217)) ea_nil)))) (by first | exact hx231 | (simp only [Option.bind_eq_bind, Option.bind_some, Option.bind_assoc] at hx231 ⊢; exact hx231)) ?_ ?_
      · intro hbb230 H232 w233
        subst hbb230
        obtain ⟨a234, hx235, hb201⟩ := bindS hb201
        have hb201 : some (Stp.rt a234) = some q203 := hb201
        cases hb201
        have hm202 : some (Sum.inr a234) = some t196 := hm202
        cases hm202
        have h : a234 = r := Option.some.inj h
        subst h
        exact x_ret w233 (e_some (e_var (R := rI) (x := x209) rfl rfl)) hx235 (fun v9 H9 G9 w9 e9 r9 => k v9 H9 G9 w9.upE r9)
      · intro hbb230 H236 w237
        subst hbb230
        refine x_next ?_
        refine x_next ?_
        have hb201 : Stp.nx () = q203 := Option.some.inj hb201
        subst hb201
        exact ⟨G204, (e215.trans (Evl.Ex.refl _)), (), (u199), (some (V.int x209)), w237, e206, rfl, hm202⟩
    · rintro σ' G238 H241 e242 ⟨s198, u199, u200, w239, e240, rfl, hm202⟩
      have hm202 := forL_end hm202
      subst hm202
      have h244 := Rep.mono _ e240 h192
      have h245 := Rep.mono _ e240 h191
      obtain ⟨a246, hx247, h⟩ := bindS h
      have h : a246 = r := Option.some.inj h
      subst h
      exact x_ret w239 (e_none (R := rI)) hx247 (fun v9 H9 G9 w9 e9 r9 => k v9 H9 G9 w9.upE r9)
def m_bounds_table (rows0 : (List (List Bool))) : Option (List (List (Option Int))) :=
  (some (rows0.length : Int) >>= fun size_248 => ((rngM 0 size_248 >>= fun xs265 => mapS (fun x255 => (rngM 0 size_248 >>= fun xs264 => mapS (fun x261 => m_least_above rows0 x255 x261) xs264)) xs265) >>= fun a266 => some a266))
theorem sc_bounds_table : FnScope ["rows", "size", "a", "b"] ["rows"] (defScope s_bounds_table) := ⟨rfl, rfl, rfl, by decide +kernel, rfl, by decide +kernel, by decide +kernel⟩
theorem ok_bounds_table (T : Tx K mg) : Fk P w K mg base CX0 2 "bounds_table" ["rows"] (PF (aC (rL (rL rB)) aN) (rL (rL (rO rI))) (fun i => m_bounds_table i.1)) := by
  obtain ⟨fd_least_above, G_least_above, b_least_above, k_least_above, g_least_above⟩ := ok_least_above (w := w) (base := base) T
  obtain ⟨fd, F⟩ := T.def_ 3 rfl
  have nd := sc_bounds_table.nd
  refine fk_mk T.toTx (x := "bounds_table") (T.glo 10 rfl) F (fun _ _ _ _ _ _ us hl => match us, hl with | [_], _ => rfl) (F.ok sc_bounds_table (fun vs H Q E h => ?_) (fun cdv A outer s H vs Q E hr h => ?_))
  · obtain ⟨G, ⟨rows0, ⟨⟩⟩, r, e0, ⟨vrows0, _, rfl, hrows0, rfl⟩, h, k⟩ := h
    rfl
  · obtain ⟨G, ⟨rows0, ⟨⟩⟩, r, e0, ⟨vrows0, _, rfl, hrows0, rfl⟩, h, k⟩ := h
    have w0 := Wo.start e0
    have h : m_bounds_table rows0 = some r := h
    unfold m_bounds_table at h
    refine ⟨_, PSs.nox (pss_cons (ps_set (i := 1) nd rfl (Or.inr rfl) (pe_callB (r := rLn K) call_len_seq (by rfl) (fr_len T) (by decide +kernel) (pa_cons (pv 0) pa_nil))) (pss_cons (ps_ret (pe_lc (own := [("a", 2)]) (by rfl) nd (pi_range1 (by rfl) (fr_range T) (pa_cons (pv 1) pa_nil)) (blkOk_by (by kernel_rfl)) (fun _ _ _ _ _ => pg_name (i := 2) nd rfl (by first | exact Or.inl rfl | exact Or.inr rfl)) (fun _ _ _ _ _ => pts_nil) (fun _ _ _ _ _ => (pe_lc (own := [("b", 3)]) (by rfl) nd (pi_range1 (by rfl) (fr_range T) (pa_cons (pv 1) pa_nil)) (blkOk_by (by kernel_rfl)) (fun _ _ _ _ _ => pg_name (i := 3) nd rfl (by first | exact Or.inl rfl | exact Or.inr rfl)) (fun _ _ _ _ _ => pts_nil) (fun _ _ _ _ _ => (pe_call G_least_above (hr.mono (by decide)) rfl g_least_above k_least_above b_least_above .nil pass0 (pa_cons (pv 0) (pa_cons (pv 2) (pa_cons (pv 3) pa_nil))))))))) pss_nil)), ?_⟩
    obtain ⟨size_248, hx249, h⟩ := bindS h
    refine x_setI w0 (e_cb rc_lenL (ea_cons (e_var (R := (rL (rL rB))) (x := rows0) rfl hrows0) ea_nil)) hx249 ?_
    intro H250 w251
    obtain ⟨a266, hx267, h⟩ := bindS h
    have h : a266 = r := Option.some.inj h
    subst h
    exact x_ret w251 (EL.e (el_mapR (el_lcR (j := 2) (ea_cons (e_var (R := rI) (x := size_248) rfl rfl) ea_nil) (fun _ => rfl) (fun _ _ _ _ _ _ => et_yes) (fun x255 G256 W257 eG252 eW253 eX254 => (EL.e (el_mapR (el_lcR (j := 3) (ea_cons (e_var (R := rI) (x := size_248) rfl rfl) ea_nil) (fun _ => rfl) (fun _ _ _ _ _ _ => et_yes) (fun x261 G262 W263 eG258 eW259 eX260 => (e_call (ea_cons (e_var (R := (rL (rL rB))) (x := rows0) rfl (Rep.mono _ eG258 (Rep.mono _ eG252 hrows0))) (ea_cons (e_var (R := rI) (x := x255) rfl rfl) (ea_cons (e_var (R := rI) (x := x261) rfl rfl) ea_nil)))))))))))) hx267 (fun v9 H9 G9 w9 e9 r9 => k v9 H9 G9 w9.upE r9)
def m_first_ring_b2 (rows0 : (List (List Bool))) (x286 : Int) (x308 : Int) (s298 : Unit) : Option (Stp Unit (Option (Int × Int))) :=
  ((andO ((atI rows0 x286 >>= fun t311 => atI t311 x308)) ((atI rows0 x308 >>= fun t312 => atI t312 x286))) >>= fun b313 => bif b313 then (some (some (x286, x308)) >>= fun a317 => some (Stp.rt a317)) else some (Stp.nx ()))
def m_first_ring_b1 (rows0 : (List (List Bool))) (x286 : Int) (s275 : Unit) : Option (Stp Unit (Option (Int × Int))) :=
  (some (x286 + (1 : Int)) >>= fun n289 => some (rows0.length : Int) >>= fun n291 => rngM n289 n291 >>= fun xs293 => forL (m_first_ring_b2 rows0 x286) xs293 () >>= Sum.elim (fun s298 => some (Stp.nx ())) (fun r => some (Stp.rt r)))
def m_first_ring (rows0 : (List (List Bool))) : Option (Option (Int × Int)) :=
  (some (rows0.length : Int) >>= fun n268 => rngM 0 n268 >>= fun xs270 => forL (m_first_ring_b1 rows0) xs270 () >>= Sum.elim (fun s275 => (some (none : (Option (Int × Int))) >>= fun a333 => some a333)) (fun r => some r))
theorem sc_first_ring : FnScope ["rows", "first", "second"] ["rows"] (defScope s_first_ring) := ⟨rfl, rfl, rfl, by decide +kernel, rfl, by decide +kernel, by decide +kernel⟩
theorem ok_first_ring (T : Tx K mg) : Fk P w K mg base CX0 1 "first_ring" ["rows"] (PF (aC (rL (rL rB)) aN) (rO (rP rI rI)) (fun i => m_first_ring i.1)) := by
  obtain ⟨fd, F⟩ := T.def_ 4 rfl
  have nd := sc_first_ring.nd
  refine fk_mk T.toTx (x := "first_ring") (T.glo 11 rfl) F (fun _ _ _ _ _ _ us hl => match us, hl with | [_], _ => rfl) (F.ok sc_first_ring (fun vs H Q E h => ?_) (fun cdv A outer s H vs Q E hr h => ?_))
  · obtain ⟨G, ⟨rows0, ⟨⟩⟩, r, e0, ⟨vrows0, _, rfl, hrows0, rfl⟩, h, k⟩ := h
    rfl
  · obtain ⟨G, ⟨rows0, ⟨⟩⟩, r, e0, ⟨vrows0, _, rfl, hrows0, rfl⟩, h, k⟩ := h
    have w0 := Wo.start e0
    have h : m_first_ring rows0 = some r := h
    unfold m_first_ring at h
    refine ⟨_, PSs.nox (pss_cons (ps_for PassesOwn.never rfl (pi_range1 (by rfl) (fr_range T) (pa_cons (pe_callB (r := rLn K) call_len_seq (by rfl) (fr_len T) (by decide +kernel) (pa_cons (pv 0) pa_nil)) pa_nil)) (pg_name (i := 1) nd rfl (Or.inl rfl)) (pss_cons (ps_for PassesOwn.never rfl (pi_range2 (by rfl) (fr_range T) (pa_cons (pe_op op_add (pv 1) pe_int) (pa_cons (pe_callB (r := rLn K) call_len_seq (by rfl) (fr_len T) (by decide +kernel) (pa_cons (pv 0) pa_nil)) pa_nil))) (pg_name (i := 2) nd rfl (Or.inl rfl)) (pss_cons (ps_if (PW.pt (pw_and (pt_val (pe_ix (r := rIxL K) ix_list (pe_ix (r := rIxL K) ix_list (pv 0) (pv 1) (fun _ _ => rfl)) (pv 2) (fun _ _ => rfl))) (pw_and1 (pt_val (pe_ix (r := rIxL K) ix_list (pe_ix (r := rIxL K) ix_list (pv 0) (pv 2) (fun _ _ => rfl)) (pv 1) (fun _ _ => rfl)))))) (pss_cons (ps_ret (pe_tup (pa_cons (pv 1) (pa_cons (pv 2) pa_nil)))) pss_nil) pss_nil) pss_nil)) pss_nil)) (pss_cons (ps_ret pe_non) pss_nil)), ?_⟩
    obtain ⟨n268, hx269, h⟩ := bindS h
    obtain ⟨xs270, hx271, h⟩ := bindS h
    obtain ⟨t273, hx274, h⟩ := bindS h
    refine x_forR w0 (ea_cons (Sim.E.is (e_cb rc_lenL (ea_cons (e_var (R := (rL (rL rB))) (x := rows0) rfl hrows0) ea_nil)) hx269) ea_nil) rfl hx271 (fun i G' H' σ' => ∃ s275 : Unit, ∃ u276 : Option V, ∃ u277 : Option V, Wo G H [] G' H' [] ∧ Evl.Ex G G' ∧ σ' = [some vrows0, u276, u277] ∧ forL (m_first_ring_b1 rows0) (xs270.drop i) s275 = some t273) ?_ ?_ ?_
    · intro G' H' w' e'
      exact ⟨(), (none), (none), w', e', rfl, hx274⟩
    · rintro i285 x286 σ' G281 H284 hx287 ⟨s275, u276, u277, w282, e283, rfl, hm279⟩
      obtain ⟨q280, hb278, hm279⟩ := forL_at hx287 hm279
      have h288 := Rep.mono _ e283 hrows0
      refine g_name ?_
      unfold m_first_ring_b1 at hb278
      obtain ⟨n289, hx290, hb278⟩ := bindS hb278
      obtain ⟨n291, hx292, hb278⟩ := bindS hb278
      obtain ⟨xs293, hx294, hb278⟩ := bindS hb278
      obtain ⟨t296, hx297, hb278⟩ := bindS hb278
      refine x_forR2 w282 (ea_cons (Sim.E.is (e_op rr_add (e_var (R := rI) (x := x286) rfl rfl) e_int) hx290) (ea_cons (Sim.E.is (e_cb rc_lenL (ea_cons (e_var (R := (rL (rL rB))) (x := rows0) rfl h288) ea_nil)) hx292) ea_nil)) rfl hx294 (fun i G' H' σ' => ∃ s298 : Unit, ∃ u299 : Option V, Wo G H [] G' H' [] ∧ Evl.Ex G281 G' ∧ σ' = [some vrows0, some (V.int x286), u299] ∧ forL (m_first_ring_b2 rows0 x286) (xs293.drop i) s298 = some t296) ?_ ?_ ?_
      · intro G' H' w' e'
        exact ⟨(), (u277), w', e', rfl, hx297⟩
      · rintro i307 x308 σ' G303 H306 hx309 ⟨s298, u299, w304, e305, rfl, hm301⟩
        obtain ⟨q302, hb300, hm301⟩ := forL_at hx309 hm301
        have h310 := Rep.mono _ e305 h288
        refine g_name ?_
        unfold m_first_ring_b2 at hb300
        obtain ⟨b313, hx314, hb300⟩ := bindS hb300
        refine x_if w304 (et_and (et_B (e_op rr_ixL (e_op rr_ixL (e_var (R := (rL (rL rB))) (x := rows0) rfl (Rep.mono _ w304.ex h310)) (e_var (R := rI) (x := x286) rfl rfl)) (e_var (R := rI) (x := x308) rfl rfl))) (et_B (e_op rr_ixL (e_op rr_ixL (e_var (R := (rL (rL rB))) (x := rows0) rfl (Rep.mono _ w304.ex h310)) (e_var (R := rI) (x := x308) rfl rfl)) (e_var (R := rI) (x := x286) rfl rfl)))) (by first | exact hx314 | (simp only [Option.bind_eq_bind, Option.bind_some, Option.bind_assoc] at hx314 ⊢; exact hx314)) ?_ ?_
        · intro hbb313 H315 w316
          subst hbb313
          obtain ⟨a317, hx318, hb300⟩ := bindS hb300
          have hb300 : some (Stp.rt a317) = some q302 := hb300
          cases hb300
          have hm301 : some (Sum.inr a317) = some t296 := hm301
          cases hm301
          have hb278 : some (Stp.rt a317) = some q280 := hb278
          cases hb278
          have hm279 : some (Sum.inr a317) = some t273 := hm279
          cases hm279
          have h : a317 = r := Option.some.inj h
          subst h
          exact x_ret w316 (e_some (e_pair (e_var (R := rI) (x := x286) rfl rfl) (e_var (R := rI) (x := x308) rfl rfl))) hx318 (fun v9 H9 G9 w9 e9 r9 => k v9 H9 G9 w9.upE r9)
        · intro hbb313 H319 w320
          subst hbb313
          refine x_next ?_
          refine x_next ?_
          have hb300 : Stp.nx () = q302 := Option.some.inj hb300
          subst hb300
          exact ⟨G303, (), (some (V.int x308)), w320, e305, rfl, hm301⟩
      · rintro σ' G321 H324 ⟨s298, u299, w322, e323, rfl, hm301⟩
        have hm301 := forL_end hm301
        subst hm301
        have h326 := Rep.mono _ e323 h288
        refine x_next ?_
        have hb278 : Stp.nx () = q280 := Option.some.inj hb278
        subst hb278
        exact ⟨G321, (), (some (V.int x286)), (u299), w322, (e283.trans e323), rfl, hm279⟩
    · rintro σ' G327 H330 ⟨s275, u276, u277, w328, e329, rfl, hm279⟩
      have hm279 := forL_end hm279
      subst hm279
      have h332 := Rep.mono _ e329 hrows0
      obtain ⟨a333, hx334, h⟩ := bindS h
      have h : a333 = r := Option.some.inj h
      subst h
      exact x_ret w328 (e_none (R := (rP rI rI))) hx334 (fun v9 H9 G9 w9 e9 r9 => k v9 H9 G9 w9.upE r9)
def m_first_lack_b2 (table0 : (List (List (Option Int)))) (x353 : Int) (x375 : Int) (s365 : Unit) : Option (Stp Unit (Option (Int × Int))) :=
  (((atI table0 x353 >>= fun t378 => atI t378 x375) >>= fun t379 => some t379.isNone) >>= fun b380 => bif b380 then (some (some (x353, x375)) >>= fun a384 => some (Stp.rt a384)) else some (Stp.nx ()))
def m_first_lack_b1 (table0 : (List (List (Option Int)))) (x353 : Int) (s342 : Unit) : Option (Stp Unit (Option (Int × Int))) :=
  (some (x353 + (1 : Int)) >>= fun n356 => some (table0.length : Int) >>= fun n358 => rngM n356 n358 >>= fun xs360 => forL (m_first_lack_b2 table0 x353) xs360 () >>= Sum.elim (fun s365 => some (Stp.nx ())) (fun r => some (Stp.rt r)))
def m_first_lack (table0 : (List (List (Option Int)))) : Option (Option (Int × Int)) :=
  (some (table0.length : Int) >>= fun n335 => rngM 0 n335 >>= fun xs337 => forL (m_first_lack_b1 table0) xs337 () >>= Sum.elim (fun s342 => (some (none : (Option (Int × Int))) >>= fun a400 => some a400)) (fun r => some r))
theorem sc_first_lack : FnScope ["table", "first", "second"] ["table"] (defScope s_first_lack) := ⟨rfl, rfl, rfl, by decide +kernel, rfl, by decide +kernel, by decide +kernel⟩
theorem ok_first_lack (T : Tx K mg) : Fk P w K mg base CX0 1 "first_lack" ["table"] (PF (aC (rL (rL (rO rI))) aN) (rO (rP rI rI)) (fun i => m_first_lack i.1)) := by
  obtain ⟨fd, F⟩ := T.def_ 5 rfl
  have nd := sc_first_lack.nd
  refine fk_mk T.toTx (x := "first_lack") (T.glo 12 rfl) F (fun _ _ _ _ _ _ us hl => match us, hl with | [_], _ => rfl) (F.ok sc_first_lack (fun vs H Q E h => ?_) (fun cdv A outer s H vs Q E hr h => ?_))
  · obtain ⟨G, ⟨table0, ⟨⟩⟩, r, e0, ⟨vtable0, _, rfl, htable0, rfl⟩, h, k⟩ := h
    rfl
  · obtain ⟨G, ⟨table0, ⟨⟩⟩, r, e0, ⟨vtable0, _, rfl, htable0, rfl⟩, h, k⟩ := h
    have w0 := Wo.start e0
    have h : m_first_lack table0 = some r := h
    unfold m_first_lack at h
    refine ⟨_, PSs.nox (pss_cons (ps_for PassesOwn.never rfl (pi_range1 (by rfl) (fr_range T) (pa_cons (pe_callB (r := rLn K) call_len_seq (by rfl) (fr_len T) (by decide +kernel) (pa_cons (pv 0) pa_nil)) pa_nil)) (pg_name (i := 1) nd rfl (Or.inl rfl)) (pss_cons (ps_for PassesOwn.never rfl (pi_range2 (by rfl) (fr_range T) (pa_cons (pe_op op_add (pv 1) pe_int) (pa_cons (pe_callB (r := rLn K) call_len_seq (by rfl) (fr_len T) (by decide +kernel) (pa_cons (pv 0) pa_nil)) pa_nil))) (pg_name (i := 2) nd rfl (Or.inl rfl)) (pss_cons (ps_if (pt_cmpR op_isN (pe_ix (r := rIxL K) ix_list (pe_ix (r := rIxL K) ix_list (pv 0) (pv 1) (fun _ _ => rfl)) (pv 2) (fun _ _ => rfl)) pe_non (nomark _)) (pss_cons (ps_ret (pe_tup (pa_cons (pv 1) (pa_cons (pv 2) pa_nil)))) pss_nil) pss_nil) pss_nil)) pss_nil)) (pss_cons (ps_ret pe_non) pss_nil)), ?_⟩
    obtain ⟨n335, hx336, h⟩ := bindS h
    obtain ⟨xs337, hx338, h⟩ := bindS h
    obtain ⟨t340, hx341, h⟩ := bindS h
    refine x_forR w0 (ea_cons (Sim.E.is (e_cb rc_lenL (ea_cons (e_var (R := (rL (rL (rO rI)))) (x := table0) rfl htable0) ea_nil)) hx336) ea_nil) rfl hx338 (fun i G' H' σ' => ∃ s342 : Unit, ∃ u343 : Option V, ∃ u344 : Option V, Wo G H [] G' H' [] ∧ Evl.Ex G G' ∧ σ' = [some vtable0, u343, u344] ∧ forL (m_first_lack_b1 table0) (xs337.drop i) s342 = some t340) ?_ ?_ ?_
    · intro G' H' w' e'
      exact ⟨(), (none), (none), w', e', rfl, hx341⟩
    · rintro i352 x353 σ' G348 H351 hx354 ⟨s342, u343, u344, w349, e350, rfl, hm346⟩
      obtain ⟨q347, hb345, hm346⟩ := forL_at hx354 hm346
      have h355 := Rep.mono _ e350 htable0
      refine g_name ?_
      unfold m_first_lack_b1 at hb345
      obtain ⟨n356, hx357, hb345⟩ := bindS hb345
      obtain ⟨n358, hx359, hb345⟩ := bindS hb345
      obtain ⟨xs360, hx361, hb345⟩ := bindS hb345
      obtain ⟨t363, hx364, hb345⟩ := bindS hb345
      refine x_forR2 w349 (ea_cons (Sim.E.is (e_op rr_add (e_var (R := rI) (x := x353) rfl rfl) e_int) hx357) (ea_cons (Sim.E.is (e_cb rc_lenL (ea_cons (e_var (R := (rL (rL (rO rI)))) (x := table0) rfl h355) ea_nil)) hx359) ea_nil)) rfl hx361 (fun i G' H' σ' => ∃ s365 : Unit, ∃ u366 : Option V, Wo G H [] G' H' [] ∧ Evl.Ex G348 G' ∧ σ' = [some vtable0, some (V.int x353), u366] ∧ forL (m_first_lack_b2 table0 x353) (xs360.drop i) s365 = some t363) ?_ ?_ ?_
      · intro G' H' w' e'
        exact ⟨(), (u344), w', e', rfl, hx364⟩
      · rintro i374 x375 σ' G370 H373 hx376 ⟨s365, u366, w371, e372, rfl, hm368⟩
        obtain ⟨q369, hb367, hm368⟩ := forL_at hx376 hm368
        have h377 := Rep.mono _ e372 h355
        refine g_name ?_
        unfold m_first_lack_b2 at hb367
        obtain ⟨b380, hx381, hb367⟩ := bindS hb367
        refine x_if w371 (et_T (e_op (rr_isN nnI) (e_op rr_ixL (e_op rr_ixL (e_var (R := (rL (rL (rO rI)))) (x := table0) rfl (Rep.mono _ w371.ex h377)) (e_var (R := rI) (x := x353) rfl rfl)) (e_var (R := rI) (x := x375) rfl rfl)) e_non)) (by first | exact hx381 | (simp only [Option.bind_eq_bind, Option.bind_some, Option.bind_assoc] at hx381 ⊢; exact hx381)) ?_ ?_
        · intro hbb380 H382 w383
          subst hbb380
          obtain ⟨a384, hx385, hb367⟩ := bindS hb367
          have hb367 : some (Stp.rt a384) = some q369 := hb367
          cases hb367
          have hm368 : some (Sum.inr a384) = some t363 := hm368
          cases hm368
          have hb345 : some (Stp.rt a384) = some q347 := hb345
          cases hb345
          have hm346 : some (Sum.inr a384) = some t340 := hm346
          cases hm346
          have h : a384 = r := Option.some.inj h
          subst h
          exact x_ret w383 (e_some (e_pair (e_var (R := rI) (x := x353) rfl rfl) (e_var (R := rI) (x := x375) rfl rfl))) hx385 (fun v9 H9 G9 w9 e9 r9 => k v9 H9 G9 w9.upE r9)
        · intro hbb380 H386 w387
          subst hbb380
          refine x_next ?_
          refine x_next ?_
          have hb367 : Stp.nx () = q369 := Option.some.inj hb367
          subst hb367
          exact ⟨G370, (), (some (V.int x375)), w387, e372, rfl, hm368⟩
      · rintro σ' G388 H391 ⟨s365, u366, w389, e390, rfl, hm368⟩
        have hm368 := forL_end hm368
        subst hm368
        have h393 := Rep.mono _ e390 h355
        refine x_next ?_
        have hb345 : Stp.nx () = q347 := Option.some.inj hb345
        subst hb345
        exact ⟨G388, (), (some (V.int x353)), (u366), w389, (e350.trans e390), rfl, hm346⟩
    · rintro σ' G394 H397 ⟨s342, u343, u344, w395, e396, rfl, hm346⟩
      have hm346 := forL_end hm346
      subst hm346
      have h399 := Rep.mono _ e396 htable0
      obtain ⟨a400, hx401, h⟩ := bindS h
      have h : a400 = r := Option.some.inj h
      subst h
      exact x_ret w395 (e_none (R := (rP rI rI))) hx401 (fun v9 H9 G9 w9 e9 r9 => k v9 H9 G9 w9.upE r9)
def m_longest_b3 (x463 : Int) (rows0 : (List (List Bool))) (x484 : Int) (s474 : (List Int)) : Option (List Int) :=
  (((andO (some (!(x463 == x484))) ((atI rows0 x463 >>= fun t488 => atI t488 x484))) >>= fun b489 => bif b489 then ((atI s474 x484 >>= fun t514 => ((atI s474 x463 >>= fun t513 => some (t513 + (1 : Int))) >>= fun t515 => some (if t515 > t514 then t515 else t514))) >>= fun a516 => some x484 >>= fun i517 => setM s474 i517 a516 >>= fun steps_518 => some steps_518) else some s474) >>= fun s505 => some (s505))
def m_longest_b2 (rows0 : (List (List Bool))) (x463 : Int) (s452 : (List Int)) : Option (List Int) :=
  (some (rows0.length : Int) >>= fun n467 => rngM 0 n467 >>= fun xs469 => forS (m_longest_b3 x463 rows0) xs469 s452 >>= fun s474 => some (s474))
def m_longest_b1 (rows0 : (List (List Bool))) (x437 : (List Bool)) (s425 : (List Int)) : Option (List Int) :=
  (some (rows0.length : Int) >>= fun n445 => rngM 0 n445 >>= fun xs447 => forS (m_longest_b2 rows0) xs447 s425 >>= fun s452 => some (s452))
def m_longest (rows0 : (List (List Bool))) : Option Int :=
  (mapS (fun x405 => some (0 : Int)) rows0 >>= fun steps_411 => (some rows0 >>= fun xs420 => forS (m_longest_b1 rows0) xs420 steps_411 >>= fun s425 => (maxL s425 >>= fun a560 => some a560)))
theorem sc_longest : FnScope ["rows", "steps", "_", "low", "high"] ["rows"] (defScope s_longest) := ⟨rfl, rfl, rfl, by decide +kernel, rfl, by decide +kernel, by decide +kernel⟩
theorem ok_longest (T : Tx K mg) : Fk P w K mg base CX0 1 "longest" ["rows"] (PF (aC (rL (rL rB)) aN) rI (fun i => m_longest i.1)) := by
  obtain ⟨fd, F⟩ := T.def_ 6 rfl
  have nd := sc_longest.nd
  refine fk_mk T.toTx (x := "longest") (T.glo 13 rfl) F (fun _ _ _ _ _ _ us hl => match us, hl with | [_], _ => rfl) (F.ok sc_longest (fun vs H Q E h => ?_) (fun cdv A outer s H vs Q E hr h => ?_))
  · obtain ⟨G, ⟨rows0, ⟨⟩⟩, r, e0, ⟨vrows0, _, rfl, hrows0, rfl⟩, h, k⟩ := h
    rfl
  · obtain ⟨G, ⟨rows0, ⟨⟩⟩, r, e0, ⟨vrows0, _, rfl, hrows0, rfl⟩, h, k⟩ := h
    have w0 := Wo.start e0
    have h : m_longest rows0 = some r := h
    unfold m_longest at h
    refine ⟨_, PSs.nox (pss_cons (ps_setLc (i := 1) (own := [("_", 2)]) (by rfl) nd rfl rfl (sw_true rfl rfl rfl (by decide +kernel)) (show L2.PI _ _ _ (iList K _) from pi_list (pv 0)) (blkOk_by (by kernel_rfl)) (fun _ _ _ _ _ => pg_name (i := 2) nd rfl (by first | exact Or.inl rfl | exact Or.inr rfl)) (fun _ _ _ _ _ => pts_nil) (fun _ _ _ _ _ => pe_int)) (pss_cons (ps_for PassesOwn.never rfl (pi_list (pv 0)) (pg_name (i := 2) nd rfl (Or.inl rfl)) (pss_cons (ps_for PassesOwn.never rfl (pi_range1 (by rfl) (fr_range T) (pa_cons (pe_callB (r := rLn K) call_len_seq (by rfl) (fr_len T) (by decide +kernel) (pa_cons (pv 0) pa_nil)) pa_nil)) (pg_name (i := 3) nd rfl (Or.inl rfl)) (pss_cons (ps_for PassesOwn.never rfl (pi_range1 (by rfl) (fr_range T) (pa_cons (pe_callB (r := rLn K) call_len_seq (by rfl) (fr_len T) (by decide +kernel) (pa_cons (pv 0) pa_nil)) pa_nil)) (pg_name (i := 4) nd rfl (Or.inl rfl)) (Evl.pss_cut (ps_if (PW.pt (pw_and (pt_cmpR op_ne (pv 3) (pv 4) (nomark _)) (pw_and1 (pt_val (pe_ix (r := rIxL K) ix_list (pe_ix (r := rIxL K) ix_list (pv 0) (pv 3) (fun _ _ => rfl)) (pv 4) (fun _ _ => rfl)))))) (pss_cons (ps_asg (pe_callB (call_max2 rfl) (by rfl) (fr_max T) (by decide +kernel) (pa_cons (pe_ix (r := rIxL K) ix_list (pv 1) (pv 4) (fun _ _ => rfl)) (pa_cons (pe_op op_add (pe_ix (r := rIxL K) ix_list (pv 1) (pv 3) (fun _ _ => rfl)) pe_int) pa_nil))) (pg_sub (pv 1) (pv 4) set_list)) pss_nil) pss_nil) pss_nil)) pss_nil)) pss_nil)) (pss_cons (ps_ret (pe_callB (r := rMax K) (cr_max rfl) (by rfl) (fr_max T) (by decide +kernel) (pa_cons (pv 1) pa_nil))) pss_nil))), ?_⟩
    obtain ⟨steps_411, hx412, h⟩ := bindS h
    refine x_setL w0 (el_map (el_lcL (j := 2) (e_var (R := (rL (rL rB))) (x := rows0) rfl hrows0) (fun _ => rfl) (fun _ _ _ _ _ _ _ _ => et_yes) (fun x405 v408 G406 W407 eG402 eW403 eX404 h409 => e_int))) hx412 ?_
    intro p415 H413 G416 n417 w414 e418
    have h419 := Rep.mono _ e418 hrows0
    obtain ⟨xs420, hx421, h⟩ := bindS h
    obtain ⟨t423, hx424, h⟩ := bindS h
    refine x_forL w414 (e_var (R := (rL (rL rB))) (x := rows0) rfl h419) hx421 (fun i G' H' σ' => ∃ s425 : (List Int), ∃ u426 : Option V, ∃ u427 : Option V, ∃ u428 : Option V, Wo G H [] G' H' [(p415, cL rI s425)] ∧ Evl.Ex G416 G' ∧ σ' = [some vrows0, some (V.ref p415), u426, u428, u427] ∧ forS (m_longest_b1 rows0) (xs420.drop i) s425 = some t423) (fun _ _ _ _ ⟨_, _, _, _, w, _⟩ => w.ex) ?_ ?_ ?_
    · intro G' H' w' e'
      exact ⟨steps_411, (none), (none), (none), w', e', rfl, hx424⟩
    · rintro G439 e440 i436 x437 v441 σ' G432 H435 hx438 e443 ⟨s425, u426, u427, u428, w433, e434, rfl, hm430⟩ r442
      obtain ⟨q431, hb429, hm430⟩ := forS_at hx438 hm430
      have h444 := Rep.mono _ e434 h419
      refine g_name ?_
      unfold m_longest_b1 at hb429
      obtain ⟨n445, hx446, hb429⟩ := bindS hb429
      obtain ⟨xs447, hx448, hb429⟩ := bindS hb429
      obtain ⟨t450, hx451, hb429⟩ := bindS hb429
      refine x_forR w433 (ea_cons (Sim.E.is (e_cb rc_lenL (ea_cons (e_var (R := (rL (rL rB))) (x := rows0) rfl h444) ea_nil)) hx446) ea_nil) rfl hx448 (fun i G' H' σ' => ∃ s452 : (List Int), ∃ u453 : Option V, ∃ u454 : Option V, Wo G H [] G' H' [(p415, cL rI s452)] ∧ Evl.Ex G432 G' ∧ σ' = [some vrows0, some (V.ref p415), some v441, u454, u453] ∧ forS (m_longest_b2 rows0) (xs447.drop i) s452 = some t450) ?_ ?_ ?_
      · intro G' H' w' e'
        exact ⟨s425, (u427), (u428), w', e', rfl, hx451⟩
      · rintro i462 x463 σ' G458 H461 hx464 ⟨s452, u453, u454, w459, e460, rfl, hm456⟩
        obtain ⟨q457, hb455, hm456⟩ := forS_at hx464 hm456
        have h465 := Rep.mono _ e460 h444
        have h466 := Rep.mono _ e460 r442
        refine g_name ?_
        unfold m_longest_b2 at hb455
        obtain ⟨n467, hx468, hb455⟩ := bindS hb455
        obtain ⟨xs469, hx470, hb455⟩ := bindS hb455
        obtain ⟨t472, hx473, hb455⟩ := bindS hb455
        refine x_forR w459 (ea_cons (Sim.E.is (e_cb rc_lenL (ea_cons (e_var (R := (rL (rL rB))) (x := rows0) rfl h465) ea_nil)) hx468) ea_nil) rfl hx470 (fun i G' H' σ' => ∃ s474 : (List Int), ∃ u475 : Option V, Wo G H [] G' H' [(p415, cL rI s474)] ∧ Evl.Ex G458 G' ∧ σ' = [some vrows0, some (V.ref p415), some v441, some (V.int x463), u475] ∧ forS (m_longest_b3 x463 rows0) (xs469.drop i) s474 = some t472) ?_ ?_ ?_
        · intro G' H' w' e'
          exact ⟨s452, (u453), w', e', rfl, hx473⟩
        · rintro i483 x484 σ' G479 H482 hx485 ⟨s474, u475, w480, e481, rfl, hm477⟩
          obtain ⟨q478, hb476, hm477⟩ := forS_at hx485 hm477
          have h486 := Rep.mono _ e481 h465
          have h487 := Rep.mono _ e481 h466
          refine g_name ?_
          unfold m_longest_b3 at hb476
          obtain ⟨s505, hx506, hb476⟩ := bindS hb476
          refine o_cut (fun σ' H' => ∃ G' : Hp, Wo G H [] G' H' [(p415, cL rI s505)] ∧ Evl.Ex G479 G' ∧ σ' = [some vrows0, some (V.ref p415), some v441, some (V.int x463), some (V.int x484)]) ?_ ?_
          · obtain ⟨b489, hx510, hx506⟩ := bindS hx506
            refine x_if w480 (et_and (et_T (e_op rr_neI (e_var (R := rI) (x := x463) rfl rfl) (e_var (R := rI) (x := x484) rfl rfl))) (et_B (e_op rr_ixL (e_op rr_ixL (e_var (R := (rL (rL rB))) (x := rows0) rfl (Rep.mono _ w480.ex h486)) (e_var (R := rI) (x := x463) rfl rfl)) (e_var (R := rI) (x := x484) rfl rfl)))) (by first | exact hx510 | (simp only [Option.bind_eq_bind, Option.bind_some, Option.bind_assoc] at hx510 ⊢; exact hx510)) ?_ ?_
            · intro hbb489 H511 w512
              subst hbb489
              obtain ⟨a516, hx519, hx506⟩ := bindS hx506
              obtain ⟨i517, hx520, hx506⟩ := bindS hx506
              obtain ⟨steps_518, hx521, hx506⟩ := bindS hx506
              refine x_setIx (j := 0) w512 rfl rfl (Sim.E.s scI (e_cb rc_max2 (ea_cons (e_op rr_ixL (e_var (R := rL rI) (x := s474) rfl (w512.rlAt (i := 0) rfl)) (e_var (R := rI) (x := x484) rfl rfl)) (ea_cons (e_op rr_add (e_op rr_ixL (e_var (R := rL rI) (x := s474) rfl (w512.rlAt (i := 0) rfl)) (e_var (R := rI) (x := x463) rfl rfl)) e_int) ea_nil)))) (by first | exact hx519 | (simp only [Option.bind_eq_bind, Option.bind_some, Option.bind_assoc] at hx519 ⊢; exact hx519)) (e_var (R := rI) (x := x484) rfl rfl) (by first | exact hx520 | (simp only [Option.bind_eq_bind, Option.bind_some, Option.bind_assoc] at hx520 ⊢; exact hx520)) hx521 ?_
              intro H522 G523 w524 e525
              have h526 := Rep.mono _ e525 h486
              have h527 := Rep.mono _ e525 h487
              have w524 : Wo G H [] G523 H522 [(p415, cL rI steps_518)] := w524
              refine x_next ?_
              have hx506 : steps_518 = s505 := Option.some.inj hx506
              subst hx506
              exact ⟨G523, w524, e525, rfl⟩
            · intro hbb489 H528 w529
              subst hbb489
              refine x_next ?_
              have hx506 : s474 = s505 := Option.some.inj hx506
              subst hx506
              exact ⟨G479, w529, (Evl.Ex.refl _), rfl⟩
          · rintro σ' H533 ⟨G530, w508, e507, rfl⟩
            have h531 := Rep.mono _ e507 h486
            have h532 := Rep.mono _ e507 h487
            refine x_next ?_
            have hb476 : s505 = q478 := Option.some.inj hb476
            subst hb476
            exact ⟨G530, s505, (some (V.int x484)), w508, (e481.trans e507), rfl, hm477⟩
        · rintro σ' G534 H537 ⟨s474, u475, w535, e536, rfl, hm477⟩
          have hm477 := forS_end hm477
          subst hm477
          have h539 := Rep.mono _ e536 h465
          have h540 := Rep.mono _ e536 h466
          refine x_next ?_
          have hb455 : s474 = q457 := Option.some.inj hb455
          subst hb455
          exact ⟨G534, s474, (u475), (some (V.int x463)), w535, (e460.trans e536), rfl, hm456⟩
      · rintro σ' G541 H544 ⟨s452, u453, u454, w542, e543, rfl, hm456⟩
        have hm456 := forS_end hm456
        subst hm456
        have h546 := Rep.mono _ e543 h444
        have h547 := Rep.mono _ e543 r442
        refine x_next ?_
        have hb429 : s452 = q431 := Option.some.inj hb429
        subst hb429
        exact ⟨G541, (e443.trans e543), s452, (some v441), (u453), (u454), w542, (e434.trans e543), rfl, hm430⟩
    · rintro σ' G548 H551 e552 ⟨s425, u426, u427, u428, w549, e550, rfl, hm430⟩
      have hm430 := forS_end hm430
      subst hm430
      have h554 := Rep.mono _ e550 h419
      obtain ⟨G555, w556, e557, h558⟩ := w549.freezeAt (i := 0) rfl n417
      have h559 := Rep.mono _ e557 h554
      have w556 : Wo G H [] G555 H551 [] := w556
      obtain ⟨a560, hx561, h⟩ := bindS h
      have h : a560 = r := Option.some.inj h
      subst h
      exact x_ret w556 (e_cb rc_maxL (ea_cons (e_var (R := (rL rI)) (x := s425) rfl h558) ea_nil)) hx561 (fun v9 H9 G9 w9 e9 r9 => k v9 H9 G9 w9.upE r9)
def m_Order___init___b2 (size0 : Int) (x612 : Int) (s602 : Unit) : Option Unit :=
  (some ((decide (x612 < (0 : Int))) || (decide (size0 ≤ x612))) >>= fun b620 => bif b620 then none else some (()))
def m_Order___init___b1 (size0 : Int) (x585 : (Int × Int)) (s573 : Unit) : Option Unit :=
  (some ([x585.1, x585.2]) >>= fun xs597 => forS (m_Order___init___b2 size0) xs597 () >>= fun s602 => some (()))
def m_Order___init__ (size0 : Int) (pairs0 : (List (Int × Int))) : Option m_Order :=
  (some ((decide (size0 < (1 : Int))) || (decide ((12 : Int) < size0))) >>= fun b562 => bif b562 then none else (some pairs0 >>= fun xs568 => forS (m_Order___init___b1 size0) xs568 () >>= fun s573 => (m_closure size0 pairs0 >>= fun above_640 => (m_first_ring above_640 >>= fun bad_649 => (some bad_649.isSome >>= fun b659 => bif b659 then none else (m_bounds_table above_640 >>= fun joins_665 => (m_first_lack joins_665 >>= fun bad_676 => (some bad_676.isSome >>= fun b688 => bif b688 then none else ((m_turned above_640 >>= fun t694 => m_bounds_table t694) >>= fun meets_695 => (m_first_lack meets_695 >>= fun bad_707 => (some bad_707.isSome >>= fun b720 => bif b720 then none else (some above_640 >>= fun f726 => (some joins_665 >>= fun f737 => (some meets_695 >>= fun f748 => (rngM 0 size0 >>= fun f759 => (m_longest above_640 >>= fun f770 => some (m_Order.mk f726 f737 f748 f759 f770)))))))))))))))))
theorem sc_Order___init__ : FnScope ["self", "size", "pairs", "above", "bad", "joins", "meets", "low", "high", "value"] ["self", "size", "pairs"] (defScope s_Order___init__) := ⟨rfl, rfl, rfl, by decide +kernel, rfl, by decide +kernel, by decide +kernel⟩
theorem ok_Order___init__ (T : Tx K mg) : Fm P w K mg base CX0 3 "Order" "__init__" ["self", "size", "pairs"] (Sim.PI (He.ga K "Order") (aC rI (aC (rL (rP rI rI)) aN)) ns_Order (fl_Order K) (fun i => m_Order___init__ i.1 i.2.1)) := by
  obtain ⟨fd_closure, G_closure, b_closure, k_closure, g_closure⟩ := ok_closure (w := w) (base := base) T
  obtain ⟨fd_first_ring, G_first_ring, b_first_ring, k_first_ring, g_first_ring⟩ := ok_first_ring (w := w) (base := base) T
  obtain ⟨fd_bounds_table, G_bounds_table, b_bounds_table, k_bounds_table, g_bounds_table⟩ := ok_bounds_table (w := w) (base := base) T
  obtain ⟨fd_first_lack, G_first_lack, b_first_lack, k_first_lack, g_first_lack⟩ := ok_first_lack (w := w) (base := base) T
  obtain ⟨fd_turned, G_turned, b_turned, k_turned, g_turned⟩ := ok_turned (w := w) (base := base) T
  obtain ⟨fd_longest, G_longest, b_longest, k_longest, g_longest⟩ := ok_longest (w := w) (base := base) T
  obtain ⟨u_Order_MOST, c_Order_MOST⟩ := T.con 0 (C := "Order") (f := "MOST") (v := .int 12) rfl
  obtain ⟨fd, F⟩ := T.def_ 8 rfl
  have nd := sc_Order___init__.nd
  refine fm_mk F (fun _ _ _ _ _ _ us hl => match us, hl with | [_, _, _], _ => rfl) (F.ok sc_Order___init__ (fun vs H Q E h => ?_) (fun cdv A outer s H vs Q E hr h => ?_))
  · obtain ⟨G, l, _, ⟨size0, pairs0, ⟨⟩⟩, r, rfl, wd, ⟨vsize0, _, rfl, hsize0, vpairs0, _, rfl, hpairs0, rfl⟩, h, k⟩ := h
    rfl
  · obtain ⟨G, l, _, ⟨size0, pairs0, ⟨⟩⟩, r, rfl, wd, ⟨vsize0, _, rfl, hsize0, vpairs0, _, rfl, hpairs0, rfl⟩, h, k⟩ := h
    cases hsize0
    have w0 : Wo G H [l] G H _ := Wo.startC wd
    have h : m_Order___init__ size0 pairs0 = some r := h
    unfold m_Order___init__ at h
    refine ⟨_, PSs.nox (pss_cons (ps_if (PW.pt (pw_or (pt_cmpR op_lt (pv 1) pe_int (nomark _)) (pw_or1 (pt_cmpR op_gt (pv 1) (pe_con (pv 0) rfl) (nomark _))))) (pss_cons ps_never pss_nil) pss_nil) (pss_cons (ps_for PassesOwn.never rfl (pi_list (pv 2)) (pg_tup (by rfl) (pgs_cons (pg_name (i := 7) nd rfl (by first | exact Or.inl rfl | exact Or.inr rfl)) (pgs_cons (pg_name (i := 8) nd rfl (by first | exact Or.inl rfl | exact Or.inr rfl)) pgs_nil))) (pss_cons (ps_for PassesOwn.never rfl (pi_tup (pe_tup (pa_cons (pv 7) (pa_cons (pv 8) pa_nil)))) (pg_name (i := 9) nd rfl (Or.inl rfl)) (pss_cons (ps_if (PW.pt (pw_or (pt_cmpR op_lt (pv 9) pe_int (nomark _)) (pw_or1 (pt_cmpR op_ge (pv 9) (pv 1) (nomark _))))) (pss_cons ps_never pss_nil) pss_nil) pss_nil)) pss_nil)) (pss_cons (ps_set (i := 3) nd rfl (Or.inl rfl) (pe_call G_closure (hr.mono (by decide)) rfl g_closure k_closure b_closure .nil pass0 (pa_cons (pv 1) (pa_cons (pv 2) pa_nil)))) (pss_cons (ps_set (i := 4) nd rfl (Or.inl rfl) (pe_call G_first_ring (hr.mono (by decide)) rfl g_first_ring k_first_ring b_first_ring .nil pass0 (pa_cons (pv 3) pa_nil))) (pss_cons (ps_if (pt_cmpR op_notN (pv 4) pe_non (nomark _)) (pss_cons ps_never pss_nil) pss_nil) (pss_cons (ps_set (i := 5) nd rfl (Or.inl rfl) (pe_call G_bounds_table (hr.mono (by decide)) rfl g_bounds_table k_bounds_table b_bounds_table .nil pass0 (pa_cons (pv 3) pa_nil))) (pss_cons (ps_set (i := 4) nd rfl (Or.inl rfl) (pe_call G_first_lack (hr.mono (by decide)) rfl g_first_lack k_first_lack b_first_lack .nil pass0 (pa_cons (pv 5) pa_nil))) (pss_cons (ps_if (pt_cmpR op_notN (pv 4) pe_non (nomark _)) (pss_cons ps_never pss_nil) pss_nil) (pss_cons (ps_set (i := 6) nd rfl (Or.inl rfl) (pe_call G_bounds_table (hr.mono (by decide)) rfl g_bounds_table k_bounds_table b_bounds_table .nil pass0 (pa_cons (pe_call G_turned (hr.mono (by decide)) rfl g_turned k_turned b_turned .nil pass0 (pa_cons (pv 3) pa_nil)) pa_nil))) (pss_cons (ps_set (i := 4) nd rfl (Or.inl rfl) (pe_call G_first_lack (hr.mono (by decide)) rfl g_first_lack k_first_lack b_first_lack .nil pass0 (pa_cons (pv 6) pa_nil))) (pss_cons (ps_if (pt_cmpR op_notN (pv 4) pe_non (nomark _)) (pss_cons ps_never pss_nil) pss_nil) (pss_cons (ps_fld (pv 0) (pv 3) rfl) (pss_cons (ps_fld (pv 0) (pv 5) rfl) (pss_cons (ps_fld (pv 0) (pv 6) rfl) (pss_cons (ps_fld (pv 0) (pe_listRg (by rfl) (by rfl) (fr_list T) (prg_1 (by rfl) (fr_range T) (pv 1))) rfl) (pss_cons (ps_fld (pv 0) (pe_call G_longest (hr.mono (by decide)) rfl g_longest k_longest b_longest .nil pass0 (pa_cons (pv 3) pa_nil)) rfl) pss_nil)))))))))))))))), ?_⟩
    obtain ⟨b562, hx563, h⟩ := bindS h
    refine x_if w0 (et_orP (et_T (e_op rr_lt (e_var (R := rI) (x := size0) rfl rfl) e_int)) (et_T (e_op rr_gt (e_var (R := rI) (x := size0) rfl rfl) (e_conC (S := rI) (x := (12 : Int)) (j := 0) w0 rfl rfl (T.cls 38 rfl) c_Order_MOST (by decide +kernel) (fun _ => rfl))))) hx563 ?_ ?_
    · intro hbb562 H564 w565
      subst hbb562
      exact absurd h (by simp)
    · intro hbb562 H566 w567
      subst hbb562
      refine x_next ?_
      obtain ⟨xs568, hx569, h⟩ := bindS h
      obtain ⟨t571, hx572, h⟩ := bindS h
      refine x_forL w567 (e_var (R := (rL (rP rI rI))) (x := pairs0) rfl hpairs0) hx569 (fun i G' H' σ' => ∃ s573 : Unit, ∃ u574 : Option V, ∃ u575 : Option V, ∃ u576 : Option V, Wo G H [l] G' H' [(l, cI (He.ga K "Order") [] [])] ∧ Evl.Ex G G' ∧ σ' = [some (V.ref l), some (V.int size0), some vpairs0, none, none, none, none, u575, u574, u576] ∧ forS (m_Order___init___b1 size0) (xs568.drop i) s573 = some t571) (fun _ _ _ _ ⟨_, _, _, _, w, _⟩ => w.ex) ?_ ?_ ?_
      · intro G' H' w' e'
        exact ⟨(), (none), (none), (none), w', e', rfl, hx572⟩
      · rintro G587 e588 i584 x585 v589 σ' G580 H583 hx586 e591 ⟨s573, u574, u575, u576, w581, e582, rfl, hm578⟩ r590
        obtain ⟨q579, hb577, hm578⟩ := forS_at hx586 hm578
        have h592 := Rep.mono _ e582 hpairs0
        refine g_pair (i := 7) (j := 8) r590 w581.ex ?_
        intro v593 v594 r595 r596
        cases r595
        cases r596
        unfold m_Order___init___b1 at hb577
        obtain ⟨xs597, hx598, hb577⟩ := bindS hb577
        obtain ⟨t600, hx601, hb577⟩ := bindS hb577
        refine x_forT w581 (e_tupH (eal_cons (e_var (R := rI) (x := x585.1) rfl rfl) (eal_cons (e_var (R := rI) (x := x585.2) rfl rfl) eal_nil))) hx598 (fun i G' H' σ' => ∃ s602 : Unit, ∃ u603 : Option V, Wo G H [l] G' H' [(l, cI (He.ga K "Order") [] [])] ∧ Evl.Ex G580 G' ∧ σ' = [some (V.ref l), some (V.int size0), some vpairs0, none, none, none, none, some (V.int x585.1), some (V.int x585.2), u603] ∧ forS (m_Order___init___b2 size0) (xs597.drop i) s602 = some t600) (fun _ _ _ _ ⟨_, _, w, _⟩ => w.ex) ?_ ?_ ?_
        · intro G' H' w' e'
          exact ⟨(), (u576), w', e', rfl, hx601⟩
        · rintro G614 e615 i611 x612 v616 σ' G607 H610 hx613 e618 ⟨s602, u603, w608, e609, rfl, hm605⟩ r617
          obtain ⟨q606, hb604, hm605⟩ := forS_at hx613 hm605
          have h619 := Rep.mono _ e609 h592
          refine g_name ?_
          cases r617
          unfold m_Order___init___b2 at hb604
          obtain ⟨b620, hx621, hb604⟩ := bindS hb604
          refine x_if w608 (et_orP (et_T (e_op rr_lt (e_var (R := rI) (x := x612) rfl rfl) e_int)) (et_T (e_op rr_ge (e_var (R := rI) (x := x612) rfl rfl) (e_var (R := rI) (x := size0) rfl rfl)))) hx621 ?_ ?_
          · intro hbb620 H622 w623
            subst hbb620
            exact absurd hb604 (by simp)
          · intro hbb620 H624 w625
            subst hbb620
            refine x_next ?_
            refine x_next ?_
            have hb604 : () = q606 := Option.some.inj hb604
            subst hb604
            exact ⟨G607, (e618.trans (Evl.Ex.refl _)), (), (some (V.int x612)), w625, e609, rfl, hm605⟩
        · rintro σ' G626 H629 e630 ⟨s602, u603, w627, e628, rfl, hm605⟩
          have hm605 := forS_end hm605
          subst hm605
          have h632 := Rep.mono _ e628 h592
          refine x_next ?_
          have hb577 : () = q579 := Option.some.inj hb577
          subst hb577
          exact ⟨G626, (e591.trans e628), (), (some (V.int x585.2)), (some (V.int x585.1)), (u603), w627, (e582.trans e628), rfl, hm578⟩
      · rintro σ' G633 H636 e637 ⟨s573, u574, u575, u576, w634, e635, rfl, hm578⟩
        have hm578 := forS_end hm578
        subst hm578
        have h639 := Rep.mono _ e635 hpairs0
        obtain ⟨above_640, hx641, h⟩ := bindS h
        refine x_set w634 (e_call (ea_cons (e_var (R := rI) (x := size0) rfl rfl) (ea_cons (e_var (R := (rL (rP rI rI))) (x := pairs0) rfl h639) ea_nil))) hx641 ?_
        intro v644 H642 G645 w643 e646 h647
        have h648 := Rep.mono _ e646 h639
        obtain ⟨bad_649, hx650, h⟩ := bindS h
        refine x_set w643 (e_call (ea_cons (e_var (R := (rL (rL rB))) (x := above_640) rfl h647) ea_nil)) hx650 ?_
        intro v653 H651 G654 w652 e655 h656
        have h657 := Rep.mono _ e655 h648
        have h658 := Rep.mono _ e655 h647
        obtain ⟨b659, hx660, h⟩ := bindS h
        refine x_if w652 (et_T (e_op (rr_notN nnP) (e_var (R := (rO (rP rI rI))) (x := bad_649) rfl (Rep.mono _ w652.ex h656)) e_non)) hx660 ?_ ?_
        · intro hbb659 H661 w662
          subst hbb659
          exact absurd h (by simp)
        · intro hbb659 H663 w664
          subst hbb659
          refine x_next ?_
          obtain ⟨joins_665, hx666, h⟩ := bindS h
          refine x_set w664 (e_call (ea_cons (e_var (R := (rL (rL rB))) (x := above_640) rfl h658) ea_nil)) hx666 ?_
          intro v669 H667 G670 w668 e671 h672
          have h673 := Rep.mono _ e671 h657
          have h674 := Rep.mono _ e671 h658
          have h675 := Rep.mono _ e671 h656
          obtain ⟨bad_676, hx677, h⟩ := bindS h
          refine x_set w668 (e_call (ea_cons (e_var (R := (rL (rL (rO rI)))) (x := joins_665) rfl h672) ea_nil)) hx677 ?_
          intro v680 H678 G681 w679 e682 h683
          have h684 := Rep.mono _ e682 h673
          have h685 := Rep.mono _ e682 h674
          have h686 := Rep.mono _ e682 h675
          have h687 := Rep.mono _ e682 h672
          obtain ⟨b688, hx689, h⟩ := bindS h
          refine x_if w679 (et_T (e_op (rr_notN nnP) (e_var (R := (rO (rP rI rI))) (x := bad_676) rfl (Rep.mono _ w679.ex h683)) e_non)) hx689 ?_ ?_
          · intro hbb688 H690 w691
            subst hbb688
            exact absurd h (by simp)
          · intro hbb688 H692 w693
            subst hbb688
            refine x_next ?_
            obtain ⟨meets_695, hx696, h⟩ := bindS h
            refine x_set w693 (e_call (ea_cons (e_call (ea_cons (e_var (R := (rL (rL rB))) (x := above_640) rfl h685) ea_nil)) ea_nil)) (by first | exact hx696 | (simp only [Option.bind_eq_bind, Option.bind_some, Option.bind_assoc] at hx696 ⊢; exact hx696)) ?_
            intro v699 H697 G700 w698 e701 h702
            have h703 := Rep.mono _ e701 h684
            have h704 := Rep.mono _ e701 h685
            have h705 := Rep.mono _ e701 h683
            have h706 := Rep.mono _ e701 h687
            obtain ⟨bad_707, hx708, h⟩ := bindS h
            refine x_set w698 (e_call (ea_cons (e_var (R := (rL (rL (rO rI)))) (x := meets_695) rfl h702) ea_nil)) hx708 ?_
            intro v711 H709 G712 w710 e713 h714
            have h715 := Rep.mono _ e713 h703
            have h716 := Rep.mono _ e713 h704
            have h717 := Rep.mono _ e713 h705
            have h718 := Rep.mono _ e713 h706
            have h719 := Rep.mono _ e713 h702
            obtain ⟨b720, hx721, h⟩ := bindS h
            refine x_if w710 (et_T (e_op (rr_notN nnP) (e_var (R := (rO (rP rI rI))) (x := bad_707) rfl (Rep.mono _ w710.ex h714)) e_non)) hx721 ?_ ?_
            · intro hbb720 H722 w723
              subst hbb720
              exact absurd h (by simp)
            · intro hbb720 H724 w725
              subst hbb720
              refine x_next ?_
              obtain ⟨f726, hx727, h⟩ := bindS h
              refine x_fldN (j := 0) w725 rfl rfl (e_var (R := (rL (rL rB))) (x := above_640) rfl h716) hx727 (T.cls 38 rfl) (T.noat 39 rfl) (by decide +kernel) (by decide) ?_
              intro H728 G729 w730 e731
              have h732 := Rep.mono _ e731 h715
              have h733 := Rep.mono _ e731 h716
              have h734 := Rep.mono _ e731 h714
              have h735 := Rep.mono _ e731 h718
              have h736 := Rep.mono _ e731 h719
              have w730 : Wo G H [l] G729 H728 [(l, cI (He.ga K "Order") ["_above"] [pd (rL (rL rB)) f726])] := w730
              obtain ⟨f737, hx738, h⟩ := bindS h
              refine x_fldN (j := 0) w730 rfl rfl (e_var (R := (rL (rL (rO rI)))) (x := joins_665) rfl h735) hx738 (T.cls 38 rfl) (T.noat 40 rfl) (by decide +kernel) (by decide) ?_
              intro H739 G740 w741 e742
              have h743 := Rep.mono _ e742 h732
              have h744 := Rep.mono _ e742 h733
              have h745 := Rep.mono _ e742 h734
              have h746 := Rep.mono _ e742 h735
              have h747 := Rep.mono _ e742 h736
              have w741 : Wo G H [l] G740 H739 [(l, cI (He.ga K "Order") ["_above", "_joins"] [pd (rL (rL rB)) f726, pd (rL (rL (rO rI))) f737])] := w741
              obtain ⟨f748, hx749, h⟩ := bindS h
              refine x_fldN (j := 0) w741 rfl rfl (e_var (R := (rL (rL (rO rI)))) (x := meets_695) rfl h747) hx749 (T.cls 38 rfl) (T.noat 41 rfl) (by decide +kernel) (by decide) ?_
              intro H750 G751 w752 e753
              have h754 := Rep.mono _ e753 h743
              have h755 := Rep.mono _ e753 h744
              have h756 := Rep.mono _ e753 h745
              have h757 := Rep.mono _ e753 h746
              have h758 := Rep.mono _ e753 h747
              have w752 : Wo G H [l] G751 H750 [(l, cI (He.ga K "Order") ["_above", "_joins", "_meets"] [pd (rL (rL rB)) f726, pd (rL (rL (rO rI))) f737, pd (rL (rL (rO rI))) f748])] := w752
              obtain ⟨f759, hx760, h⟩ := bindS h
              refine x_fldN (j := 0) w752 rfl rfl (EL.e (el_listRg (e_var (R := rI) (x := size0) rfl rfl))) hx760 (T.cls 38 rfl) (T.noat 42 rfl) (by decide +kernel) (by decide) ?_
              intro H761 G762 w763 e764
              have h765 := Rep.mono _ e764 h754
              have h766 := Rep.mono _ e764 h755
              have h767 := Rep.mono _ e764 h756
              have h768 := Rep.mono _ e764 h757
              have h769 := Rep.mono _ e764 h758
              have w763 : Wo G H [l] G762 H761 [(l, cI (He.ga K "Order") ["_above", "_joins", "_meets", "_members"] [pd (rL (rL rB)) f726, pd (rL (rL (rO rI))) f737, pd (rL (rL (rO rI))) f748, pd (rL rI) f759])] := w763
              obtain ⟨f770, hx771, h⟩ := bindS h
              refine x_fldN (j := 0) w763 rfl rfl (e_call (ea_cons (e_var (R := (rL (rL rB))) (x := above_640) rfl h766) ea_nil)) hx771 (T.cls 38 rfl) (T.noat 43 rfl) (by decide +kernel) (by decide) ?_
              intro H772 G773 w774 e775
              have h776 := Rep.mono _ e775 h765
              have h777 := Rep.mono _ e775 h766
              have h778 := Rep.mono _ e775 h767
              have h779 := Rep.mono _ e775 h768
              have h780 := Rep.mono _ e775 h769
              have w774 : Wo G H [l] G773 H772 [(l, cI (He.ga K "Order") ["_above", "_joins", "_meets", "_members", "_height"] [pd (rL (rL rB)) f726, pd (rL (rL (rO rI))) f737, pd (rL (rL (rO rI))) f748, pd (rL rI) f759, pd rI f770])] := w774
              refine x_next ?_
              have h : (m_Order.mk f726 f737 f748 f759 f770) = r := Option.some.inj h
              subst h
              exact k _ _ w774.f (w774.sub1 (i := 0) rfl)
def m_Order__require_b1 (self0 : m_Order) (x796 : Int) (s786 : Unit) : Option Unit :=
  (some ((decide (x796 < (0 : Int))) || (decide ((self0.f_members.length : Int) ≤ x796))) >>= fun b804 => bif b804 then none else some (()))
def m_Order__require (self0 : m_Order) (first0 : Int) (second0 : Int) : Option Unit :=
  (some ([first0, second0]) >>= fun xs781 => forS (m_Order__require_b1 self0) xs781 () >>= fun s786 => some ())
theorem sc_Order__require : FnScope ["self", "first", "second", "value"] ["self", "first", "second"] (defScope s_Order__require) := ⟨rfl, rfl, rfl, by decide +kernel, rfl, by decide +kernel, by decide +kernel⟩
theorem ok_Order__require (T : Tx K mg) : Fm P w K mg base CX0 1 "Order" "_require" ["self", "first", "second"] (PF (aC (r_Order K) (aC rI (aC rI aN))) rU (fun i => m_Order__require i.1 i.2.1 i.2.2.1)) := by
  obtain ⟨fd, F⟩ := T.def_ 9 rfl
  have nd := sc_Order__require.nd
  refine fm_mk F (fun _ _ _ _ _ _ us hl => match us, hl with | [_, _, _], _ => rfl) (F.ok sc_Order__require (fun vs H Q E h => ?_) (fun cdv A outer s H vs Q E hr h => ?_))
  · obtain ⟨G, ⟨self0, first0, second0, ⟨⟩⟩, r, e0, ⟨vself0, _, rfl, hself0, vfirst0, _, rfl, hfirst0, vsecond0, _, rfl, hsecond0, rfl⟩, h, k⟩ := h
    rfl
  · obtain ⟨G, ⟨self0, first0, second0, ⟨⟩⟩, r, e0, ⟨vself0, _, rfl, hself0, vfirst0, _, rfl, hfirst0, vsecond0, _, rfl, hsecond0, rfl⟩, h, k⟩ := h
    cases hfirst0
    cases hsecond0
    have w0 := Wo.start e0
    have h : m_Order__require self0 first0 second0 = some r := h
    unfold m_Order__require at h
    refine ⟨_, PSs.nox (pss_cons (ps_for PassesOwn.never rfl (pi_tup (pe_tup (pa_cons (pv 1) (pa_cons (pv 2) pa_nil)))) (pg_name (i := 3) nd rfl (Or.inl rfl)) (pss_cons (ps_if (PW.pt (pw_or (pt_cmpR op_lt (pv 3) pe_int (nomark _)) (pw_or1 (pt_cmpR op_ge (pv 3) (pe_callB (r := rLn K) call_len_seq (by rfl) (fr_len T) (by decide +kernel) (pa_cons (pe_fld (pv 0) rfl) pa_nil)) (nomark _))))) (pss_cons ps_never pss_nil) pss_nil) pss_nil)) pss_nil), ?_⟩
    obtain ⟨xs781, hx782, h⟩ := bindS h
    obtain ⟨t784, hx785, h⟩ := bindS h
    refine x_forT w0 (e_tupH (eal_cons (e_var (R := rI) (x := first0) rfl rfl) (eal_cons (e_var (R := rI) (x := second0) rfl rfl) eal_nil))) hx782 (fun i G' H' σ' => ∃ s786 : Unit, ∃ u787 : Option V, Wo G H [] G' H' [] ∧ Evl.Ex G G' ∧ σ' = [some vself0, some (V.int first0), some (V.int second0), u787] ∧ forS (m_Order__require_b1 self0) (xs781.drop i) s786 = some t784) (fun _ _ _ _ ⟨_, _, w, _⟩ => w.ex) ?_ ?_ ?_
    · intro G' H' w' e'
      exact ⟨(), (none), w', e', rfl, hx785⟩
    · rintro G798 e799 i795 x796 v800 σ' G791 H794 hx797 e802 ⟨s786, u787, w792, e793, rfl, hm789⟩ r801
      obtain ⟨q790, hb788, hm789⟩ := forS_at hx797 hm789
      have h803 := Rep.mono _ e793 hself0
      refine g_name ?_
      cases r801
      unfold m_Order__require_b1 at hb788
      obtain ⟨b804, hx805, hb788⟩ := bindS hb788
      refine x_if w792 (et_orP (et_T (e_op rr_lt (e_var (R := rI) (x := x796) rfl rfl) e_int)) (et_T (e_op rr_ge (e_var (R := rI) (x := x796) rfl rfl) (e_cb rc_lenL (ea_cons (e_fld 3 (fun (o : m_Order) => o.f_members) (e_var (R := (r_Order K)) (x := self0) rfl (Rep.mono _ w792.ex h803)) (T.cls 38 rfl) (T.noat 42 rfl) (by decide +kernel) (fun _ => rfl)) ea_nil))))) hx805 ?_ ?_
      · intro hbb804 H806 w807
        subst hbb804
        exact absurd hb788 (by simp)
      · intro hbb804 H808 w809
        subst hbb804
        refine x_next ?_
        refine x_next ?_
        have hb788 : () = q790 := Option.some.inj hb788
        subst hb788
        exact ⟨G791, (e802.trans (Evl.Ex.refl _)), (), (some (V.int x796)), w809, e793, rfl, hm789⟩
    · rintro σ' G810 H813 e814 ⟨s786, u787, w811, e812, rfl, hm789⟩
      have hm789 := forS_end hm789
      subst hm789
      have h816 := Rep.mono _ e812 hself0
      refine x_next ?_
      have h : () = r := Option.some.inj h
      subst h
      exact k _ _ _ w811.upE rfl
def m_Order__require_X_b1 (self0 : m_Order) (x832 : Int) (s822 : Unit) : Option (Stp Unit (Xn ⊕ Unit)) :=
  (some ((decide (x832 < (0 : Int))) || (decide ((self0.f_members.length : Int) ≤ x832))) >>= fun b840 => bif b840 then (some x832 >>= fun a844 => some (Stp.rt (Sum.inl ⟨"NotElement", [("value", .int a844)]⟩ : Xn ⊕ Unit))) else some (Stp.nx ()))
def m_Order__require_X (self0 : m_Order) (first0 : Int) (second0 : Int) : Option (Xn ⊕ Unit) :=
  (some ([first0, second0]) >>= fun xs817 => forL (m_Order__require_X_b1 self0) xs817 () >>= Sum.elim (fun s822 => some (Sum.inr () : Xn ⊕ Unit)) (fun r => some r))
theorem sc_Order__require_X : FnScope ["self", "first", "second", "value"] ["self", "first", "second"] (defScope s_Order__require) := ⟨rfl, rfl, rfl, by decide +kernel, rfl, by decide +kernel, by decide +kernel⟩
theorem ok_Order__require_X (T : Tx K mg) : Fm P w K mg base (L2.CX P w) 3 "Order" "_require" ["self", "first", "second"] (PX K (aC (r_Order K) (aC rI (aC rI aN))) rU (fun i => m_Order__require_X i.1 i.2.1 i.2.2.1)) := by
  obtain ⟨fI_NotElement, b_NotElement, F_NotElement⟩ := okx_NotElement (w := w) (base := base) T
  have Y_NotElement := known_NotElement T
  have g_NotElement := T.glo 3 rfl
  obtain ⟨fd, F⟩ := T.def_ 9 rfl
  have nd := sc_Order__require_X.nd
  refine fm_mk F (fun _ _ _ _ _ _ us hl => match us, hl with | [_, _, _], _ => rfl) (F.ok sc_Order__require_X (fun vs H Q E h => ?_) (fun cdv A outer s H vs Q E hr h => ?_))
  · obtain ⟨G, ⟨self0, first0, second0, ⟨⟩⟩, r, e0, ⟨vself0, _, rfl, hself0, vfirst0, _, rfl, hfirst0, vsecond0, _, rfl, hsecond0, rfl⟩, h, kx, k⟩ := h
    rfl
  · obtain ⟨G, ⟨self0, first0, second0, ⟨⟩⟩, r, e0, ⟨vself0, _, rfl, hself0, vfirst0, _, rfl, hfirst0, vsecond0, _, rfl, hsecond0, rfl⟩, h, kx, k⟩ := h
    cases hfirst0
    cases hsecond0
    have w0 := Wo.start e0
    have h : m_Order__require_X self0 first0 second0 = some r := h
    unfold m_Order__require_X at h
    have tk := takes_of (X := cxOf (L2.CX P w) P w K mg base ["self", "first", "second", "value"] "Order._require" (defScope s_Order__require) (He.fAd K ("Order", some "_require")) cdv A outer s H E) rfl rfl rfl (E := E) rfl
    refine ⟨_, (pss_cons (ps_for (passes_of rfl) rfl (pi_tup (pe_tup (pa_cons (pv 1) (pa_cons (pv 2) pa_nil)))) (pg_name (i := 3) nd rfl (Or.inl rfl)) (pss_cons (ps_if (PW.pt (pw_or (pt_cmpR op_lt (pv 3) pe_int (nomark _)) (pw_or1 (pt_cmpR op_ge (pv 3) (pe_callB (r := rLn K) call_len_seq (by rfl) (fr_len T) (by decide +kernel) (pa_cons (pe_fld (pv 0) rfl) pa_nil)) (nomark _))))) (pss_cons (ps_raise rfl tk (pmk_oex Y_NotElement.oex Y_NotElement.ini Y_NotElement.ty F_NotElement (hr.mono (by decide)) b_NotElement .nil pass0 rfl g_NotElement (pa_cons (pv 3) pa_nil))) pss_nil) pss_nil) pss_nil)) pss_nil), ?_⟩
    obtain ⟨xs817, hx818, h⟩ := bindS h
    obtain ⟨t820, hx821, h⟩ := bindS h
    refine x_forT w0 (e_tupH (eal_cons (e_var (R := rI) (x := first0) rfl rfl) (eal_cons (e_var (R := rI) (x := second0) rfl rfl) eal_nil))) hx818 (fun i G' H' σ' => ∃ s822 : Unit, ∃ u823 : Option V, Wo G H [] G' H' [] ∧ Evl.Ex G G' ∧ σ' = [some vself0, some (V.int first0), some (V.int second0), u823] ∧ forL (m_Order__require_X_b1 self0) (xs817.drop i) s822 = some t820) (fun _ _ _ _ ⟨_, _, w, _⟩ => w.ex) ?_ ?_ ?_
    · intro G' H' w' e'
      exact ⟨(), (none), w', e', rfl, hx821⟩
    · rintro G834 e835 i831 x832 v836 σ' G827 H830 hx833 e838 ⟨s822, u823, w828, e829, rfl, hm825⟩ r837
      obtain ⟨q826, hb824, hm825⟩ := forL_at hx833 hm825
      have h839 := Rep.mono _ e829 hself0
      refine g_name ?_
      cases r837
      unfold m_Order__require_X_b1 at hb824
      obtain ⟨b840, hx841, hb824⟩ := bindS hb824
      refine x_if w828 (et_orP (et_T (e_op rr_lt (e_var (R := rI) (x := x832) rfl rfl) e_int)) (et_T (e_op rr_ge (e_var (R := rI) (x := x832) rfl rfl) (e_cb rc_lenL (ea_cons (e_fld 3 (fun (o : m_Order) => o.f_members) (e_var (R := (r_Order K)) (x := self0) rfl (Rep.mono _ w828.ex h839)) (T.cls 38 rfl) (T.noat 42 rfl) (by decide +kernel) (fun _ => rfl)) ea_nil))))) hx841 ?_ ?_
      · intro hbb840 H842 w843
        subst hbb840
        obtain ⟨a844, hx845, hb824⟩ := bindS hb824
        have hb824 : some (Stp.rt (Sum.inl ⟨"NotElement", [("value", .int a844)]⟩ : Xn ⊕ Unit)) = some q826 := hb824
        cases hb824
        have hm825 : some (Sum.inr (Sum.inl ⟨"NotElement", [("value", .int a844)]⟩ : Xn ⊕ Unit)) = some t820 := hm825
        cases hm825
        have h : (Sum.inl ⟨"NotElement", [("value", .int a844)]⟩ : Xn ⊕ Unit) = r := Option.some.inj h
        subst h
        refine x_raise (A := (aC rI aN)) (i := (a844, ())) w843 (ea_cons (e_var (R := rI) (x := x832) rfl rfl) ea_nil) (by first | (simp only [hx845, Option.bind_eq_bind, Option.bind_some]) | (cases hx845; rfl)) (fun G9 vs9 r9 => by obtain ⟨u0, _, rfl, q0, rfl⟩ := r9; exact ⟨rfl, by simp⟩) ?_
        intro vs9 H9 G9 d9 w9 r9 e9 hd9
        obtain ⟨u0, _, rfl, q0, rfl⟩ := r9
        exact kx _ rfl d9 H9 G9 w9.upE (Xat_mk (names := ["value"]) (xs := [.int a844]) (by decide) hd9 (.cons q0 .nil))
      · intro hbb840 H846 w847
        subst hbb840
        refine x_next ?_
        refine x_next ?_
        have hb824 : Stp.nx () = q826 := Option.some.inj hb824
        subst hb824
        exact ⟨G827, (e838.trans (Evl.Ex.refl _)), (), (some (V.int x832)), w847, e829, rfl, hm825⟩
    · rintro σ' G848 H851 e852 ⟨s822, u823, w849, e850, rfl, hm825⟩
      have hm825 := forL_end hm825
      subst hm825
      have h854 := Rep.mono _ e850 hself0
      refine x_next ?_
      have h : (Sum.inr () : Xn ⊕ Unit) = r := Option.some.inj h
      subst h
      exact k _ rfl _ _ _ w849.upE rfl
def m_Order_below (self0 : m_Order) (first0 : Int) (second0 : Int) : Option Bool :=
  (m_Order__require self0 first0 second0 >>= fun a855 => ((atI self0.f_above first0 >>= fun t859 => atI t859 second0) >>= fun a860 => some a860))
theorem sc_Order_below : FnScope ["self", "first", "second"] ["self", "first", "second"] (defScope s_Order_below) := ⟨rfl, rfl, rfl, by decide +kernel, rfl, by decide +kernel, by decide +kernel⟩
theorem ok_Order_below (T : Tx K mg) : Fm P w K mg base CX0 2 "Order" "below" ["self", "first", "second"] (PF (aC (r_Order K) (aC rI (aC rI aN))) rB (fun i => m_Order_below i.1 i.2.1 i.2.2.1)) := by
  obtain ⟨fd_Order__require, G_Order__require, b_Order__require⟩ := ok_Order__require (w := w) (base := base) T
  obtain ⟨fd, F⟩ := T.def_ 10 rfl
  have nd := sc_Order_below.nd
  refine fm_mk F (fun _ _ _ _ _ _ us hl => match us, hl with | [_, _, _], _ => rfl) (F.ok sc_Order_below (fun vs H Q E h => ?_) (fun cdv A outer s H vs Q E hr h => ?_))
  · obtain ⟨G, ⟨self0, first0, second0, ⟨⟩⟩, r, e0, ⟨vself0, _, rfl, hself0, vfirst0, _, rfl, hfirst0, vsecond0, _, rfl, hsecond0, rfl⟩, h, k⟩ := h
    rfl
  · obtain ⟨G, ⟨self0, first0, second0, ⟨⟩⟩, r, e0, ⟨vself0, _, rfl, hself0, vfirst0, _, rfl, hfirst0, vsecond0, _, rfl, hsecond0, rfl⟩, h, k⟩ := h
    cases hfirst0
    cases hsecond0
    have w0 := Wo.start e0
    have h : m_Order_below self0 first0 second0 = some r := h
    unfold m_Order_below at h
    refine ⟨_, PSs.nox (pss_cons (ps_expr (pe_meth (pv 0) (T.cls 38 rfl) (T.meth 44 rfl) G_Order__require (hr.mono (by decide)) b_Order__require .nil pass0 (pa_cons (pv 1) (pa_cons (pv 2) pa_nil)))) (pss_cons (ps_ret (pe_ix (r := rIxL K) ix_list (pe_ix (r := rIxL K) ix_list (pe_fld (pv 0) rfl) (pv 1) (fun _ _ => rfl)) (pv 2) (fun _ _ => rfl))) pss_nil)), ?_⟩
    obtain ⟨a855, hx856, h⟩ := bindS h
    refine x_call w0 (e_meth (e_var (R := (r_Order K)) (x := self0) rfl hself0) (ea_cons (e_var (R := rI) (x := first0) rfl rfl) (ea_cons (e_var (R := rI) (x := second0) rfl rfl) ea_nil)) (by decide +kernel)) hx856 ?_
    intro H857 w858
    obtain ⟨a860, hx861, h⟩ := bindS h
    have h : a860 = r := Option.some.inj h
    subst h
    exact x_ret w858 (e_op rr_ixL (e_op rr_ixL (e_fld 0 (fun (o : m_Order) => o.f_above) (e_var (R := (r_Order K)) (x := self0) rfl hself0) (T.cls 38 rfl) (T.noat 39 rfl) (by decide +kernel) (fun _ => rfl)) (e_var (R := rI) (x := first0) rfl rfl)) (e_var (R := rI) (x := second0) rfl rfl)) (by first | exact hx861 | (simp only [Option.bind_eq_bind, Option.bind_some, Option.bind_assoc] at hx861 ⊢; exact hx861)) (fun v9 H9 G9 w9 e9 r9 => k v9 H9 G9 w9.upE r9)
def m_Order_below_X (self0 : m_Order) (first0 : Int) (second0 : Int) : Option (Xn ⊕ Bool) :=
  (m_Order__require_X self0 first0 second0 >>= fun r862 => Sum.elim (fun e864 => some (Sum.inl e864 : Xn ⊕ Bool)) (fun x873 => ((atI self0.f_above first0 >>= fun t880 => atI t880 second0) >>= fun a881 => some (Sum.inr a881 : Xn ⊕ Bool))) r862)
theorem sc_Order_below_X : FnScope ["self", "first", "second"] ["self", "first", "second"] (defScope s_Order_below) := ⟨rfl, rfl, rfl, by decide +kernel, rfl, by decide +kernel, by decide +kernel⟩
theorem ok_Order_below_X (T : Tx K mg) : Fm P w K mg base (L2.CX P w) 4 "Order" "below" ["self", "first", "second"] (PX K (aC (r_Order K) (aC rI (aC rI aN))) rB (fun i => m_Order_below_X i.1 i.2.1 i.2.2.1)) := by
  obtain ⟨fd_Order__require_X, G_Order__require_X, b_Order__require_X⟩ := ok_Order__require_X (w := w) (base := base) T
  obtain ⟨fd, F⟩ := T.def_ 10 rfl
  have nd := sc_Order_below_X.nd
  refine fm_mk F (fun _ _ _ _ _ _ us hl => match us, hl with | [_, _, _], _ => rfl) (F.ok sc_Order_below_X (fun vs H Q E h => ?_) (fun cdv A outer s H vs Q E hr h => ?_))
  · obtain ⟨G, ⟨self0, first0, second0, ⟨⟩⟩, r, e0, ⟨vself0, _, rfl, hself0, vfirst0, _, rfl, hfirst0, vsecond0, _, rfl, hsecond0, rfl⟩, h, kx, k⟩ := h
    rfl
  · obtain ⟨G, ⟨self0, first0, second0, ⟨⟩⟩, r, e0, ⟨vself0, _, rfl, hself0, vfirst0, _, rfl, hfirst0, vsecond0, _, rfl, hsecond0, rfl⟩, h, kx, k⟩ := h
    cases hfirst0
    cases hsecond0
    have w0 := Wo.start e0
    have h : m_Order_below_X self0 first0 second0 = some r := h
    unfold m_Order_below_X at h
    have tk := takes_of (X := cxOf (L2.CX P w) P w K mg base ["self", "first", "second"] "Order.below" (defScope s_Order_below) (He.fAd K ("Order", some "below")) cdv A outer s H E) rfl rfl rfl (E := E) rfl
    refine ⟨_, (pss_cons (ps_expr (pe_methT (pv 0) (T.cls 38 rfl) (T.meth 44 rfl) G_Order__require_X (hr.mono (by decide)) b_Order__require_X (passAt tk) (pa_cons (pv 1) (pa_cons (pv 2) pa_nil)))) (pss_cons (ps_ret (pe_ix (r := rIxL K) ix_list (pe_ix (r := rIxL K) ix_list (pe_fld (pv 0) rfl) (pv 1) (fun _ _ => rfl)) (pv 2) (fun _ _ => rfl))) pss_nil)), ?_⟩
    obtain ⟨r862, hx863, h⟩ := bindS h
    refine x_callX w0 (ex_meth (e_var (R := (r_Order K)) (x := self0) rfl hself0) (ea_cons (e_var (R := rI) (x := first0) rfl rfl) (ea_cons (e_var (R := rI) (x := second0) rfl rfl) ea_nil)) (by decide +kernel)) (by first | exact hx863 | (simp only [Option.bind_eq_bind, Option.bind_some, Option.bind_assoc] at hx863 ⊢; exact hx863)) ?_ ?_
    · intro e864 he865 d866 H867 G868 w869 e870 xa871
      subst he865
      have h := sumL h
      have h872 := Rep.mono _ e870 hself0
      have h : (Sum.inl e864 : Xn ⊕ Bool) = r := Option.some.inj h
      subst h
      exact kx _ rfl d866 H867 G868 w869.upE xa871
    · intro x873 he874 H875 G876 w877 e878
      subst he874
      have h := sumR h
      have h879 := Rep.mono _ e878 hself0
      obtain ⟨a881, hx882, h⟩ := bindS h
      have h : (Sum.inr a881 : Xn ⊕ Bool) = r := Option.some.inj h
      subst h
      exact x_ret w877 (e_op rr_ixL (e_op rr_ixL (e_fld 0 (fun (o : m_Order) => o.f_above) (e_var (R := (r_Order K)) (x := self0) rfl h879) (T.cls 38 rfl) (T.noat 39 rfl) (by decide +kernel) (fun _ => rfl)) (e_var (R := rI) (x := first0) rfl rfl)) (e_var (R := rI) (x := second0) rfl rfl)) (by first | exact hx882 | (simp only [Option.bind_eq_bind, Option.bind_some, Option.bind_assoc] at hx882 ⊢; exact hx882)) (fun v9 H9 G9 w9 e9 r9 => k _ rfl v9 H9 G9 w9.upE r9)
def m_Order_join_of (self0 : m_Order) (first0 : Int) (second0 : Int) : Option Int :=
  (m_Order__require self0 first0 second0 >>= fun a883 => (((atI self0.f_joins first0 >>= fun t887 => atI t887 second0) >>= fun t888 => t888) >>= fun a889 => some a889))
theorem sc_Order_join_of : FnScope ["self", "first", "second"] ["self", "first", "second"] (defScope s_Order_join_of) := ⟨rfl, rfl, rfl, by decide +kernel, rfl, by decide +kernel, by decide +kernel⟩
theorem ok_Order_join_of (T : Tx K mg) : Fm P w K mg base CX0 2 "Order" "join_of" ["self", "first", "second"] (PF (aC (r_Order K) (aC rI (aC rI aN))) rI (fun i => m_Order_join_of i.1 i.2.1 i.2.2.1)) := by
  obtain ⟨fd_Order__require, G_Order__require, b_Order__require⟩ := ok_Order__require (w := w) (base := base) T
  obtain ⟨fd, F⟩ := T.def_ 11 rfl
  have nd := sc_Order_join_of.nd
  refine fm_mk F (fun _ _ _ _ _ _ us hl => match us, hl with | [_, _, _], _ => rfl) (F.ok sc_Order_join_of (fun vs H Q E h => ?_) (fun cdv A outer s H vs Q E hr h => ?_))
  · obtain ⟨G, ⟨self0, first0, second0, ⟨⟩⟩, r, e0, ⟨vself0, _, rfl, hself0, vfirst0, _, rfl, hfirst0, vsecond0, _, rfl, hsecond0, rfl⟩, h, k⟩ := h
    rfl
  · obtain ⟨G, ⟨self0, first0, second0, ⟨⟩⟩, r, e0, ⟨vself0, _, rfl, hself0, vfirst0, _, rfl, hfirst0, vsecond0, _, rfl, hsecond0, rfl⟩, h, k⟩ := h
    cases hfirst0
    cases hsecond0
    have w0 := Wo.start e0
    have h : m_Order_join_of self0 first0 second0 = some r := h
    unfold m_Order_join_of at h
    refine ⟨_, PSs.nox (pss_cons (ps_expr (pe_meth (pv 0) (T.cls 38 rfl) (T.meth 44 rfl) G_Order__require (hr.mono (by decide)) b_Order__require .nil pass0 (pa_cons (pv 1) (pa_cons (pv 2) pa_nil)))) (pss_cons (ps_ret (pe_ix (r := rIxL K) ix_list (pe_ix (r := rIxL K) ix_list (pe_fld (pv 0) rfl) (pv 1) (fun _ _ => rfl)) (pv 2) (fun _ _ => rfl))) pss_nil)), ?_⟩
    obtain ⟨a883, hx884, h⟩ := bindS h
    refine x_call w0 (e_meth (e_var (R := (r_Order K)) (x := self0) rfl hself0) (ea_cons (e_var (R := rI) (x := first0) rfl rfl) (ea_cons (e_var (R := rI) (x := second0) rfl rfl) ea_nil)) (by decide +kernel)) hx884 ?_
    intro H885 w886
    obtain ⟨a889, hx890, h⟩ := bindS h
    have h : a889 = r := Option.some.inj h
    subst h
    exact x_ret w886 (e_get (e_op rr_ixL (e_op rr_ixL (e_fld 1 (fun (o : m_Order) => o.f_joins) (e_var (R := (r_Order K)) (x := self0) rfl hself0) (T.cls 38 rfl) (T.noat 40 rfl) (by decide +kernel) (fun _ => rfl)) (e_var (R := rI) (x := first0) rfl rfl)) (e_var (R := rI) (x := second0) rfl rfl))) (by first | exact hx890 | (simp only [Option.bind_eq_bind, Option.bind_some, Option.bind_assoc] at hx890 ⊢; exact hx890)) (fun v9 H9 G9 w9 e9 r9 => k v9 H9 G9 w9.upE r9)
def m_Order_join_of_X (self0 : m_Order) (first0 : Int) (second0 : Int) : Option (Xn ⊕ Int) :=
  (m_Order__require_X self0 first0 second0 >>= fun r891 => Sum.elim (fun e893 => some (Sum.inl e893 : Xn ⊕ Int)) (fun x902 => (((atI self0.f_joins first0 >>= fun t909 => atI t909 second0) >>= fun t910 => t910) >>= fun a911 => some (Sum.inr a911 : Xn ⊕ Int))) r891)
theorem sc_Order_join_of_X : FnScope ["self", "first", "second"] ["self", "first", "second"] (defScope s_Order_join_of) := ⟨rfl, rfl, rfl, by decide +kernel, rfl, by decide +kernel, by decide +kernel⟩
theorem ok_Order_join_of_X (T : Tx K mg) : Fm P w K mg base (L2.CX P w) 4 "Order" "join_of" ["self", "first", "second"] (PX K (aC (r_Order K) (aC rI (aC rI aN))) rI (fun i => m_Order_join_of_X i.1 i.2.1 i.2.2.1)) := by
  obtain ⟨fd_Order__require_X, G_Order__require_X, b_Order__require_X⟩ := ok_Order__require_X (w := w) (base := base) T
  obtain ⟨fd, F⟩ := T.def_ 11 rfl
  have nd := sc_Order_join_of_X.nd
  refine fm_mk F (fun _ _ _ _ _ _ us hl => match us, hl with | [_, _, _], _ => rfl) (F.ok sc_Order_join_of_X (fun vs H Q E h => ?_) (fun cdv A outer s H vs Q E hr h => ?_))
  · obtain ⟨G, ⟨self0, first0, second0, ⟨⟩⟩, r, e0, ⟨vself0, _, rfl, hself0, vfirst0, _, rfl, hfirst0, vsecond0, _, rfl, hsecond0, rfl⟩, h, kx, k⟩ := h
    rfl
  · obtain ⟨G, ⟨self0, first0, second0, ⟨⟩⟩, r, e0, ⟨vself0, _, rfl, hself0, vfirst0, _, rfl, hfirst0, vsecond0, _, rfl, hsecond0, rfl⟩, h, kx, k⟩ := h
    cases hfirst0
    cases hsecond0
    have w0 := Wo.start e0
    have h : m_Order_join_of_X self0 first0 second0 = some r := h
    unfold m_Order_join_of_X at h
    have tk := takes_of (X := cxOf (L2.CX P w) P w K mg base ["self", "first", "second"] "Order.join_of" (defScope s_Order_join_of) (He.fAd K ("Order", some "join_of")) cdv A outer s H E) rfl rfl rfl (E := E) rfl
    refine ⟨_, (pss_cons (ps_expr (pe_methT (pv 0) (T.cls 38 rfl) (T.meth 44 rfl) G_Order__require_X (hr.mono (by decide)) b_Order__require_X (passAt tk) (pa_cons (pv 1) (pa_cons (pv 2) pa_nil)))) (pss_cons (ps_ret (pe_ix (r := rIxL K) ix_list (pe_ix (r := rIxL K) ix_list (pe_fld (pv 0) rfl) (pv 1) (fun _ _ => rfl)) (pv 2) (fun _ _ => rfl))) pss_nil)), ?_⟩
    obtain ⟨r891, hx892, h⟩ := bindS h
    refine x_callX w0 (ex_meth (e_var (R := (r_Order K)) (x := self0) rfl hself0) (ea_cons (e_var (R := rI) (x := first0) rfl rfl) (ea_cons (e_var (R := rI) (x := second0) rfl rfl) ea_nil)) (by decide +kernel)) (by first | exact hx892 | (simp only [Option.bind_eq_bind, Option.bind_some, Option.bind_assoc] at hx892 ⊢; exact hx892)) ?_ ?_
    · intro e893 he894 d895 H896 G897 w898 e899 xa900
      subst he894
      have h := sumL h
      have h901 := Rep.mono _ e899 hself0
      have h : (Sum.inl e893 : Xn ⊕ Int) = r := Option.some.inj h
      subst h
      exact kx _ rfl d895 H896 G897 w898.upE xa900
    · intro x902 he903 H904 G905 w906 e907
      subst he903
      have h := sumR h
      have h908 := Rep.mono _ e907 hself0
      obtain ⟨a911, hx912, h⟩ := bindS h
      have h : (Sum.inr a911 : Xn ⊕ Int) = r := Option.some.inj h
      subst h
      exact x_ret w906 (e_get (e_op rr_ixL (e_op rr_ixL (e_fld 1 (fun (o : m_Order) => o.f_joins) (e_var (R := (r_Order K)) (x := self0) rfl h908) (T.cls 38 rfl) (T.noat 40 rfl) (by decide +kernel) (fun _ => rfl)) (e_var (R := rI) (x := first0) rfl rfl)) (e_var (R := rI) (x := second0) rfl rfl))) (by first | exact hx912 | (simp only [Option.bind_eq_bind, Option.bind_some, Option.bind_assoc] at hx912 ⊢; exact hx912)) (fun v9 H9 G9 w9 e9 r9 => k _ rfl v9 H9 G9 w9.upE r9)
def m_Order_meet_of (self0 : m_Order) (first0 : Int) (second0 : Int) : Option Int :=
  (m_Order__require self0 first0 second0 >>= fun a913 => (((atI self0.f_meets first0 >>= fun t917 => atI t917 second0) >>= fun t918 => t918) >>= fun a919 => some a919))
theorem sc_Order_meet_of : FnScope ["self", "first", "second"] ["self", "first", "second"] (defScope s_Order_meet_of) := ⟨rfl, rfl, rfl, by decide +kernel, rfl, by decide +kernel, by decide +kernel⟩
theorem ok_Order_meet_of (T : Tx K mg) : Fm P w K mg base CX0 2 "Order" "meet_of" ["self", "first", "second"] (PF (aC (r_Order K) (aC rI (aC rI aN))) rI (fun i => m_Order_meet_of i.1 i.2.1 i.2.2.1)) := by
  obtain ⟨fd_Order__require, G_Order__require, b_Order__require⟩ := ok_Order__require (w := w) (base := base) T
  obtain ⟨fd, F⟩ := T.def_ 12 rfl
  have nd := sc_Order_meet_of.nd
  refine fm_mk F (fun _ _ _ _ _ _ us hl => match us, hl with | [_, _, _], _ => rfl) (F.ok sc_Order_meet_of (fun vs H Q E h => ?_) (fun cdv A outer s H vs Q E hr h => ?_))
  · obtain ⟨G, ⟨self0, first0, second0, ⟨⟩⟩, r, e0, ⟨vself0, _, rfl, hself0, vfirst0, _, rfl, hfirst0, vsecond0, _, rfl, hsecond0, rfl⟩, h, k⟩ := h
    rfl
  · obtain ⟨G, ⟨self0, first0, second0, ⟨⟩⟩, r, e0, ⟨vself0, _, rfl, hself0, vfirst0, _, rfl, hfirst0, vsecond0, _, rfl, hsecond0, rfl⟩, h, k⟩ := h
    cases hfirst0
    cases hsecond0
    have w0 := Wo.start e0
    have h : m_Order_meet_of self0 first0 second0 = some r := h
    unfold m_Order_meet_of at h
    refine ⟨_, PSs.nox (pss_cons (ps_expr (pe_meth (pv 0) (T.cls 38 rfl) (T.meth 44 rfl) G_Order__require (hr.mono (by decide)) b_Order__require .nil pass0 (pa_cons (pv 1) (pa_cons (pv 2) pa_nil)))) (pss_cons (ps_ret (pe_ix (r := rIxL K) ix_list (pe_ix (r := rIxL K) ix_list (pe_fld (pv 0) rfl) (pv 1) (fun _ _ => rfl)) (pv 2) (fun _ _ => rfl))) pss_nil)), ?_⟩
    obtain ⟨a913, hx914, h⟩ := bindS h
    refine x_call w0 (e_meth (e_var (R := (r_Order K)) (x := self0) rfl hself0) (ea_cons (e_var (R := rI) (x := first0) rfl rfl) (ea_cons (e_var (R := rI) (x := second0) rfl rfl) ea_nil)) (by decide +kernel)) hx914 ?_
    intro H915 w916
    obtain ⟨a919, hx920, h⟩ := bindS h
    have h : a919 = r := Option.some.inj h
    subst h
    exact x_ret w916 (e_get (e_op rr_ixL (e_op rr_ixL (e_fld 2 (fun (o : m_Order) => o.f_meets) (e_var (R := (r_Order K)) (x := self0) rfl hself0) (T.cls 38 rfl) (T.noat 41 rfl) (by decide +kernel) (fun _ => rfl)) (e_var (R := rI) (x := first0) rfl rfl)) (e_var (R := rI) (x := second0) rfl rfl))) (by first | exact hx920 | (simp only [Option.bind_eq_bind, Option.bind_some, Option.bind_assoc] at hx920 ⊢; exact hx920)) (fun v9 H9 G9 w9 e9 r9 => k v9 H9 G9 w9.upE r9)
def m_Order_meet_of_X (self0 : m_Order) (first0 : Int) (second0 : Int) : Option (Xn ⊕ Int) :=
  (m_Order__require_X self0 first0 second0 >>= fun r921 => Sum.elim (fun e923 => some (Sum.inl e923 : Xn ⊕ Int)) (fun x932 => (((atI self0.f_meets first0 >>= fun t939 => atI t939 second0) >>= fun t940 => t940) >>= fun a941 => some (Sum.inr a941 : Xn ⊕ Int))) r921)
theorem sc_Order_meet_of_X : FnScope ["self", "first", "second"] ["self", "first", "second"] (defScope s_Order_meet_of) := ⟨rfl, rfl, rfl, by decide +kernel, rfl, by decide +kernel, by decide +kernel⟩
theorem ok_Order_meet_of_X (T : Tx K mg) : Fm P w K mg base (L2.CX P w) 4 "Order" "meet_of" ["self", "first", "second"] (PX K (aC (r_Order K) (aC rI (aC rI aN))) rI (fun i => m_Order_meet_of_X i.1 i.2.1 i.2.2.1)) := by
  obtain ⟨fd_Order__require_X, G_Order__require_X, b_Order__require_X⟩ := ok_Order__require_X (w := w) (base := base) T
  obtain ⟨fd, F⟩ := T.def_ 12 rfl
  have nd := sc_Order_meet_of_X.nd
  refine fm_mk F (fun _ _ _ _ _ _ us hl => match us, hl with | [_, _, _], _ => rfl) (F.ok sc_Order_meet_of_X (fun vs H Q E h => ?_) (fun cdv A outer s H vs Q E hr h => ?_))
  · obtain ⟨G, ⟨self0, first0, second0, ⟨⟩⟩, r, e0, ⟨vself0, _, rfl, hself0, vfirst0, _, rfl, hfirst0, vsecond0, _, rfl, hsecond0, rfl⟩, h, kx, k⟩ := h
    rfl
  · obtain ⟨G, ⟨self0, first0, second0, ⟨⟩⟩, r, e0, ⟨vself0, _, rfl, hself0, vfirst0, _, rfl, hfirst0, vsecond0, _, rfl, hsecond0, rfl⟩, h, kx, k⟩ := h
    cases hfirst0
    cases hsecond0
    have w0 := Wo.start e0
    have h : m_Order_meet_of_X self0 first0 second0 = some r := h
    unfold m_Order_meet_of_X at h
    have tk := takes_of (X := cxOf (L2.CX P w) P w K mg base ["self", "first", "second"] "Order.meet_of" (defScope s_Order_meet_of) (He.fAd K ("Order", some "meet_of")) cdv A outer s H E) rfl rfl rfl (E := E) rfl
    refine ⟨_, (pss_cons (ps_expr (pe_methT (pv 0) (T.cls 38 rfl) (T.meth 44 rfl) G_Order__require_X (hr.mono (by decide)) b_Order__require_X (passAt tk) (pa_cons (pv 1) (pa_cons (pv 2) pa_nil)))) (pss_cons (ps_ret (pe_ix (r := rIxL K) ix_list (pe_ix (r := rIxL K) ix_list (pe_fld (pv 0) rfl) (pv 1) (fun _ _ => rfl)) (pv 2) (fun _ _ => rfl))) pss_nil)), ?_⟩
    obtain ⟨r921, hx922, h⟩ := bindS h
    refine x_callX w0 (ex_meth (e_var (R := (r_Order K)) (x := self0) rfl hself0) (ea_cons (e_var (R := rI) (x := first0) rfl rfl) (ea_cons (e_var (R := rI) (x := second0) rfl rfl) ea_nil)) (by decide +kernel)) (by first | exact hx922 | (simp only [Option.bind_eq_bind, Option.bind_some, Option.bind_assoc] at hx922 ⊢; exact hx922)) ?_ ?_
    · intro e923 he924 d925 H926 G927 w928 e929 xa930
      subst he924
      have h := sumL h
      have h931 := Rep.mono _ e929 hself0
      have h : (Sum.inl e923 : Xn ⊕ Int) = r := Option.some.inj h
      subst h
      exact kx _ rfl d925 H926 G927 w928.upE xa930
    · intro x932 he933 H934 G935 w936 e937
      subst he933
      have h := sumR h
      have h938 := Rep.mono _ e937 hself0
      obtain ⟨a941, hx942, h⟩ := bindS h
      have h : (Sum.inr a941 : Xn ⊕ Int) = r := Option.some.inj h
      subst h
      exact x_ret w936 (e_get (e_op rr_ixL (e_op rr_ixL (e_fld 2 (fun (o : m_Order) => o.f_meets) (e_var (R := (r_Order K)) (x := self0) rfl h938) (T.cls 38 rfl) (T.noat 41 rfl) (by decide +kernel) (fun _ => rfl)) (e_var (R := rI) (x := first0) rfl rfl)) (e_var (R := rI) (x := second0) rfl rfl))) (by first | exact hx942 | (simp only [Option.bind_eq_bind, Option.bind_some, Option.bind_assoc] at hx942 ⊢; exact hx942)) (fun v9 H9 G9 w9 e9 r9 => k _ rfl v9 H9 G9 w9.upE r9)
def m__law_pot_b2 (x1062 : Int) (s1052 : ((List Int) × Int)) : Option ((List Int) × Int) :=
  ((some ((decide ((0 : Int) < s1052.2)) || (x1062 == (0 : Int))) >>= fun b1065 => bif b1065 then (modM s1052.2 (100 : Int) >>= fun a1084 => appM s1052.1 a1084 >>= fun pot_here_1085 => some pot_here_1085) else some s1052.1) >>= fun s1076 => (fdivM s1052.2 (100 : Int) >>= fun rest_1099 => some ((s1076, rest_1099))))
def m__law_pot_b1 (script0 : (List Int)) (x972 : Int) (s959 : (List Int)) : Option (List Int) :=
  ((atI script0 x972 >>= fun t975 => some (if t975 < 0 then -t975 else t975)) >>= fun rest_976 => (some (60 : Int) >>= fun many_980 => (((powM (10 : Int) (18 : Int) >>= fun t984 => some (decide (rest_976 < t984))) >>= fun b985 => bif b985 then ((((mulM (2 : Int) rest_976 >>= fun t1019 => (((atI script0 x972 >>= fun t1017 => some (decide (t1017 < (0 : Int)))) >>= fun t1018 => some (if t1018 = true then (1 : Int) else 0)) >>= fun t1020 => some (t1019 + t1020))) >>= fun t1022 => ((mulM (2 : Int) x972 >>= fun t1021 => some ((48271 : Int) + t1021)) >>= fun t1023 => mulM t1022 t1023)) >>= fun t1024 => modM t1024 (2147483647 : Int)) >>= fun rest_1025 => (((mulM rest_1025 rest_1025 >>= fun t1029 => (mulM rest_1025 x972 >>= fun t1030 => some (t1029 + t1030))) >>= fun t1031 => modM t1031 (2147483629 : Int)) >>= fun rest_1032 => (some (4 : Int) >>= fun many_1036 => some (many_1036, rest_1032)))) else some (many_980, rest_976)) >>= fun s1009 => (some s1009.1 >>= fun n1045 => rngM 0 n1045 >>= fun xs1047 => forS (m__law_pot_b2) xs1047 (s959, s1009.2) >>= fun s1052 => some (s1052.1)))))
def m__law_pot (script0 : (List Int)) : Option (List Int) :=
  (some ([]) >>= fun pot_here_943 => (some (if (63 : Int) < (script0.length : Int) then (63 : Int) else (script0.length : Int)) >>= fun n952 => rngM 0 n952 >>= fun xs954 => forS (m__law_pot_b1 script0) xs954 pot_here_943 >>= fun s959 => (some (s959.reverse) >>= fun pot_here_1115 => some s959.reverse)))
theorem sc__law_pot : FnScope ["_law_script", "_law_pot_here", "_law_place", "_law_rest", "_law_many", "_law_k"] ["_law_script"] (defScope s__law_pot) := ⟨rfl, rfl, rfl, by decide +kernel, rfl, by decide +kernel, by decide +kernel⟩
theorem ok__law_pot (T : Tx K mg) : Fk P w K mg base CX0 1 "_law_pot" ["_law_script"] (PL (aC (rScr K) aN) rI (fun i => m__law_pot i.1)) := by
  obtain ⟨fd, F⟩ := T.def_ 15 rfl
  have nd := sc__law_pot.nd
  refine fk_mk T.toTx (x := "_law_pot") (T.glo 16 rfl) F (fun _ _ _ _ _ _ us hl => match us, hl with | [_], _ => rfl) (F.ok sc__law_pot (fun vs H Q E h => ?_) (fun cdv A outer s H vs Q E hr h => ?_))
  · obtain ⟨G, ⟨script0, ⟨⟩⟩, r, e0, ⟨vscript0, _, rfl, hscript0, rfl⟩, h, k⟩ := h
    rfl
  · obtain ⟨G, ⟨script0, ⟨⟩⟩, r, e0, ⟨vscript0, _, rfl, hscript0, rfl⟩, h, k⟩ := h
    have w0 := Wo.start e0
    have h : m__law_pot script0 = some r := h
    unfold m__law_pot at h
    refine ⟨_, PSs.nox (pss_cons (ps_set (i := 1) nd rfl (Or.inl rfl) (pe_lst pa_nil)) (pss_cons (ps_for PassesOwn.never rfl (pi_range1 (by rfl) (fr_range T) (pa_cons (pe_callB (call_min2 rfl) (by rfl) (fr_min T) (by decide +kernel) (pa_cons (pe_callB (r := rLn K) call_len_seq (by rfl) (fr_len T) (by decide +kernel) (pa_cons (pv 0) pa_nil)) (pa_cons pe_int pa_nil))) pa_nil)) (pg_name (i := 2) nd rfl (Or.inl rfl)) (pss_cons (ps_set (i := 3) nd rfl (Or.inl rfl) (pe_callB call_abs (by rfl) (fr_abs T) (by decide +kernel) (pa_cons (pe_ix (r := rIxL K) ix_list (pv 0) (pv 2) (fun _ _ => rfl)) pa_nil))) (pss_cons (ps_set (i := 4) nd rfl (Or.inl rfl) pe_int) (Evl.pss_cut (ps_if (pt_cmpR op_lt (pv 3) (pe_op op_pow pe_int pe_int) (nomark _)) (pss_cons (ps_set (i := 3) nd rfl (Or.inl rfl) (pe_op op_mod (pe_callTy call_int1 (by rfl) (fr_int T) (by decide +kernel) (pa_cons (pe_op op_mul (pe_op op_add (pe_op op_mul pe_int (pv 3)) (pe_callTy call_int1 (by rfl) (fr_int T) (by decide +kernel) (pa_cons (pe_cmpR op_lt (pe_ix (r := rIxL K) ix_list (pv 0) (pv 2) (fun _ _ => rfl)) pe_int (nomark _)) pa_nil))) (pe_op op_add pe_int (pe_op op_mul pe_int (pv 2)))) pa_nil)) pe_int)) (pss_cons (ps_set (i := 3) nd rfl (Or.inl rfl) (pe_op op_mod (pe_callTy call_int1 (by rfl) (fr_int T) (by decide +kernel) (pa_cons (pe_op op_add (pe_op op_mul (pv 3) (pv 3)) (pe_op op_mul (pv 3) (pv 2))) pa_nil)) pe_int)) (pss_cons (ps_set (i := 4) nd rfl (Or.inl rfl) pe_int) pss_nil))) pss_nil) (pss_cons (ps_for PassesOwn.never rfl (pi_range1 (by rfl) (fr_range T) (pa_cons (pv 4) pa_nil)) (pg_name (i := 5) nd rfl (Or.inl rfl)) (Evl.pss_cut (ps_if (PW.pt (pw_or (pt_cmpR op_gt (pv 3) pe_int (nomark _)) (pw_or1 (pt_cmpR op_eq (pv 5) pe_int (nomark _))))) (pss_cons (ps_expr (pe_bm PySem.F.plainAttrs_list PySem.F.slot_list_append PySem.F.type_list_append mt_append (pv 1) (pa_cons (pe_op op_mod (pe_callTy call_int1 (by rfl) (fr_int T) (by decide +kernel) (pa_cons (pv 3) pa_nil)) pe_int) pa_nil))) pss_nil) pss_nil) (pss_cons (ps_set (i := 3) nd rfl (Or.inl rfl) (pe_op op_fdiv (pv 3) pe_int)) pss_nil))) pss_nil))))) (pss_cons (ps_expr (pe_bm0 PySem.F.plainAttrs_list PySem.F.slot_list_reverse PySem.F.type_list_reverse mt_reverse (pv 1))) (pss_cons (ps_ret (pv 1)) pss_nil)))), ?_⟩
    obtain ⟨pot_here_943, hx944, h⟩ := bindS h
    refine x_setL w0 (el_disp (R := rI) eal_nil) hx944 ?_
    intro p947 H945 G948 n949 w946 e950
    have h951 := Rep.mono _ e950 hscript0
    obtain ⟨n952, hx953, h⟩ := bindS h
    obtain ⟨xs954, hx955, h⟩ := bindS h
    obtain ⟨t957, hx958, h⟩ := bindS h
    refine x_forR w946 (ea_cons (Sim.E.is (e_cb rc_min2 (ea_cons (e_cb rc_lenScr (ea_cons (e_var (R := (rScr K)) (x := script0) rfl h951) ea_nil)) (ea_cons e_int ea_nil))) hx953) ea_nil) rfl hx955 (fun i G' H' σ' => ∃ s959 : (List Int), ∃ u960 : Option V, ∃ u961 : Option V, ∃ u962 : Option V, ∃ u963 : Option V, Wo G H [] G' H' [(p947, cL rI s959)] ∧ Evl.Ex G948 G' ∧ σ' = [some vscript0, some (V.ref p947), u962, u963, u961, u960] ∧ forS (m__law_pot_b1 script0) (xs954.drop i) s959 = some t957) ?_ ?_ ?_
    · intro G' H' w' e'
      exact ⟨pot_here_943, (none), (none), (none), (none), w', e', rfl, hx958⟩
    · rintro i971 x972 σ' G967 H970 hx973 ⟨s959, u960, u961, u962, u963, w968, e969, rfl, hm965⟩
      obtain ⟨q966, hb964, hm965⟩ := forS_at hx973 hm965
      have h974 := Rep.mono _ e969 h951
      refine g_name ?_
      unfold m__law_pot_b1 at hb964
      obtain ⟨rest_976, hx977, hb964⟩ := bindS hb964
      refine x_setI w968 (e_cb rc_abs (ea_cons (e_op rr_ixScr (e_var (R := (rScr K)) (x := script0) rfl h974) (e_var (R := rI) (x := x972) rfl rfl)) ea_nil)) (by first | exact hx977 | (simp only [Option.bind_eq_bind, Option.bind_some, Option.bind_assoc] at hx977 ⊢; exact hx977)) ?_
      intro H978 w979
      obtain ⟨many_980, hx981, hb964⟩ := bindS hb964
      refine x_setI w979 e_int hx981 ?_
      intro H982 w983
      obtain ⟨s1009, hx1010, hb964⟩ := bindS hb964
      refine o_cut (fun σ' H' => ∃ G' : Hp, Wo G H [] G' H' [(p947, cL rI s959)] ∧ Evl.Ex G967 G' ∧ σ' = [some vscript0, some (V.ref p947), some (V.int x972), some (V.int s1009.2), some (V.int s1009.1), u960]) ?_ ?_
      · obtain ⟨b985, hx1014, hx1010⟩ := bindS hx1010
        refine x_if w983 (et_T (e_op rr_lt (e_var (R := rI) (x := rest_976) rfl rfl) (e_op rr_pow e_int e_int))) (by first | exact hx1014 | (simp only [Option.bind_eq_bind, Option.bind_some, Option.bind_assoc] at hx1014 ⊢; exact hx1014)) ?_ ?_
        · intro hbb985 H1015 w1016
          subst hbb985
          obtain ⟨rest_1025, hx1026, hx1010⟩ := bindS hx1010
          refine x_setI w1016 (e_op rr_mod (e_cb rc_intI (ea_cons (e_op rr_mul (e_op rr_add (e_op rr_mul e_int (e_var (R := rI) (x := rest_976) rfl rfl)) (e_cb rc_intB (ea_cons (e_op rr_lt (e_op rr_ixScr (e_var (R := (rScr K)) (x := script0) rfl h974) (e_var (R := rI) (x := x972) rfl rfl)) e_int) ea_nil))) (e_op rr_add e_int (e_op rr_mul e_int (e_var (R := rI) (x := x972) rfl rfl)))) ea_nil)) e_int) (by first | exact hx1026 | (simp only [Option.bind_eq_bind, Option.bind_some, Option.bind_assoc] at hx1026 ⊢; exact hx1026)) ?_
          intro H1027 w1028
          obtain ⟨rest_1032, hx1033, hx1010⟩ := bindS hx1010
          refine x_setI w1028 (e_op rr_mod (e_cb rc_intI (ea_cons (e_op rr_add (e_op rr_mul (e_var (R := rI) (x := rest_1025) rfl rfl) (e_var (R := rI) (x := rest_1025) rfl rfl)) (e_op rr_mul (e_var (R := rI) (x := rest_1025) rfl rfl) (e_var (R := rI) (x := x972) rfl rfl))) ea_nil)) e_int) (by first | exact hx1033 | (simp only [Option.bind_eq_bind, Option.bind_some, Option.bind_assoc] at hx1033 ⊢; exact hx1033)) ?_
          intro H1034 w1035
          obtain ⟨many_1036, hx1037, hx1010⟩ := bindS hx1010
          refine x_setI w1035 e_int hx1037 ?_
          intro H1038 w1039
          refine x_next ?_
          have hx1010 : (many_1036, rest_1032) = s1009 := Option.some.inj hx1010
          subst hx1010
          exact ⟨G967, w1039, (Evl.Ex.refl _), rfl⟩
        · intro hbb985 H1040 w1041
          subst hbb985
          refine x_next ?_
          have hx1010 : (many_980, rest_976) = s1009 := Option.some.inj hx1010
          subst hx1010
          exact ⟨G967, w1041, (Evl.Ex.refl _), rfl⟩
      · rintro σ' H1044 ⟨G1042, w1012, e1011, rfl⟩
        have h1043 := Rep.mono _ e1011 h974
        obtain ⟨n1045, hx1046, hb964⟩ := bindS hb964
        obtain ⟨xs1047, hx1048, hb964⟩ := bindS hb964
        obtain ⟨t1050, hx1051, hb964⟩ := bindS hb964
        refine x_forR w1012 (ea_cons (Sim.E.is (e_var (R := rI) (x := s1009.1) rfl rfl) hx1046) ea_nil) rfl hx1048 (fun i G' H' σ' => ∃ s1052 : ((List Int) × Int), ∃ u1053 : Option V, Wo G H [] G' H' [(p947, cL rI s1052.1)] ∧ Evl.Ex G1042 G' ∧ σ' = [some vscript0, some (V.ref p947), some (V.int x972), some (V.int s1052.2), some (V.int s1009.1), u1053] ∧ forS (m__law_pot_b2) (xs1047.drop i) s1052 = some t1050) ?_ ?_ ?_
        · intro G' H' w' e'
          exact ⟨(s959, s1009.2), (u960), w', e', rfl, hx1051⟩
        · rintro i1061 x1062 σ' G1057 H1060 hx1063 ⟨s1052, u1053, w1058, e1059, rfl, hm1055⟩
          obtain ⟨q1056, hb1054, hm1055⟩ := forS_at hx1063 hm1055
          have h1064 := Rep.mono _ e1059 h1043
          refine g_name ?_
          unfold m__law_pot_b2 at hb1054
          obtain ⟨s1076, hx1077, hb1054⟩ := bindS hb1054
          refine o_cut (fun σ' H' => ∃ G' : Hp, Wo G H [] G' H' [(p947, cL rI s1076)] ∧ Evl.Ex G1057 G' ∧ σ' = [some vscript0, some (V.ref p947), some (V.int x972), some (V.int s1052.2), some (V.int s1009.1), some (V.int x1062)]) ?_ ?_
          · obtain ⟨b1065, hx1081, hx1077⟩ := bindS hx1077
            refine x_if w1058 (et_orP (et_T (e_op rr_gt (e_var (R := rI) (x := s1052.2) rfl rfl) e_int)) (et_T (e_op rr_eqI (e_var (R := rI) (x := x1062) rfl rfl) e_int))) hx1081 ?_ ?_
            · intro hbb1065 H1082 w1083
              subst hbb1065
              obtain ⟨a1084, hx1086, hx1077⟩ := bindS hx1077
              obtain ⟨pot_here_1085, hx1087, hx1077⟩ := bindS hx1077
              obtain ⟨hs1088, rfl⟩ := appM_ok hx1087
              refine x_app (j := 0) w1083 rfl hs1088 rfl (e_op rr_mod (e_cb rc_intI (ea_cons (e_var (R := rI) (x := s1052.2) rfl rfl) ea_nil)) e_int) hx1086 ?_
              intro H1089 G1090 w1091 e1092
              have h1093 := Rep.mono _ e1092 h1064
              have w1091 : Wo G H [] G1090 H1089 [(p947, cL rI (s1052.1 ++ [a1084]))] := w1091
              refine x_next ?_
              have hx1077 : (s1052.1 ++ [a1084]) = s1076 := Option.some.inj hx1077
              subst hx1077
              exact ⟨G1090, w1091, e1092, rfl⟩
            · intro hbb1065 H1094 w1095
              subst hbb1065
              refine x_next ?_
              have hx1077 : s1052.1 = s1076 := Option.some.inj hx1077
              subst hx1077
              exact ⟨G1057, w1095, (Evl.Ex.refl _), rfl⟩
          · rintro σ' H1098 ⟨G1096, w1079, e1078, rfl⟩
            have h1097 := Rep.mono _ e1078 h1064
            obtain ⟨rest_1099, hx1100, hb1054⟩ := bindS hb1054
            refine x_setI w1079 (e_op rr_fdiv (e_var (R := rI) (x := s1052.2) rfl rfl) e_int) hx1100 ?_
            intro H1101 w1102
            refine x_next ?_
            have hb1054 : (s1076, rest_1099) = q1056 := Option.some.inj hb1054
            subst hb1054
            exact ⟨G1096, (s1076, rest_1099), (some (V.int x1062)), w1102, (e1059.trans e1078), rfl, hm1055⟩
        · rintro σ' G1103 H1106 ⟨s1052, u1053, w1104, e1105, rfl, hm1055⟩
          have hm1055 := forS_end hm1055
          subst hm1055
          have h1108 := Rep.mono _ e1105 h1043
          refine x_next ?_
          have hb964 : s1052.1 = q966 := Option.some.inj hb964
          subst hb964
          exact ⟨G1103, s1052.1, (u1053), (some (V.int s1009.1)), (some (V.int x972)), (some (V.int s1052.2)), w1104, ((e969.trans e1011).trans e1105), rfl, hm965⟩
    · rintro σ' G1109 H1112 ⟨s959, u960, u961, u962, u963, w1110, e1111, rfl, hm965⟩
      have hm965 := forS_end hm965
      subst hm965
      have h1114 := Rep.mono _ e1111 h951
      refine x_drop ?_
      obtain ⟨pot_here_1115, hx1116, h⟩ := bindS h
      cases hx1116
      refine o_bm0 (j := 0) w1110 rfl rfl (c_rev (j := 0) w1110 rfl ?_)
      intro H1117 w1118
      have w1118 : Wo G H [] G1109 H1117 [(p947, cL rI s959.reverse)] := w1118
      have h : s959.reverse = r := Option.some.inj h
      subst h
      refine x_retO (o_var rfl ?_)
      exact k _ _ _ n949 w1118.upE (w1118.sub1 (i := 0) rfl)
def m__law_draw (pot_here0 : (List Int)) (many0 : Int) : Option (Int × (List Int)) :=
  (some ((pot_here0.length : Int) == (0 : Int)) >>= fun b1119 => bif b1119 then (some (0 : Int) >>= fun a1123 => some (a1123, pot_here0)) else (popM pot_here0 >>= fun x1127 => (some many0 >>= fun x1134 => (modM x1127.1 x1134 >>= fun x1138 => some (x1138, x1127.2)))))
theorem sc__law_draw : FnScope ["_law_pot_here", "_law_many"] ["_law_pot_here", "_law_many"] (defScope s__law_draw) := ⟨rfl, rfl, rfl, by decide +kernel, rfl, by decide +kernel, by decide +kernel⟩
theorem ok__law_draw (T : Tx K mg) : Fk P w K mg base CX0 1 "_law_draw" ["_law_pot_here", "_law_many"] (P1 (aC rI aN) rI rI (fun ys i => m__law_draw ys i.1)) := by
  obtain ⟨fd, F⟩ := T.def_ 16 rfl
  have nd := sc__law_draw.nd
  refine fk_mk T.toTx (x := "_law_draw") (T.glo 17 rfl) F (fun _ _ _ _ _ _ us hl => match us, hl with | [_, _], _ => rfl) (F.ok sc__law_draw (fun vs H Q E h => ?_) (fun cdv A outer s H vs Q E hr h => ?_))
  · obtain ⟨G, ⟨l, ⟨many0, ⟨⟩⟩⟩, pot_here0, r, k', ⟨_, _, rfl, rfl, ⟨vmany0, _, rfl, hmany0, rfl⟩⟩, wd, h, k⟩ := h
    rfl
  · obtain ⟨G, ⟨l, ⟨many0, ⟨⟩⟩⟩, pot_here0, r, k', ⟨_, _, rfl, rfl, ⟨vmany0, _, rfl, hmany0, rfl⟩⟩, wd, h, k⟩ := h
    cases hmany0
    have w0 : Wo G H [l] G H _ := Wo.startC wd
    have h : m__law_draw pot_here0 many0 = some (r, k') := h
    unfold m__law_draw at h
    refine ⟨_, PSs.nox (pss_cons (ps_if (pt_cmpR op_eq (pe_callB (r := rLn K) call_len_seq (by rfl) (fr_len T) (by decide +kernel) (pa_cons (pv 0) pa_nil)) pe_int (nomark _)) (pss_cons (ps_ret pe_int) pss_nil) pss_nil) (pss_cons (ps_ret (pe_op op_mod (pe_callTy call_int1 (by rfl) (fr_int T) (by decide +kernel) (pa_cons (pe_bm0 PySem.F.plainAttrs_list PySem.F.slot_list_pop PySem.F.type_list_pop mt_pop (pv 0)) pa_nil)) (pv 1))) pss_nil)), ?_⟩
    obtain ⟨b1119, hx1120, h⟩ := bindS h
    refine x_if w0 (et_T (e_op rr_eqI (e_cb rc_lenL (ea_cons (e_var (R := rL rI) (x := pot_here0) rfl (w0.rlAt (i := 0) rfl)) ea_nil)) e_int)) hx1120 ?_ ?_
    · intro hbb1119 H1121 w1122
      subst hbb1119
      obtain ⟨a1123, hx1124, h⟩ := bindS h
      obtain ⟨h8, h9⟩ : a1123 = r ∧ pot_here0 = k' := Prod.mk.inj (Option.some.inj h)
      subst h8
      subst h9
      exact x_ret w1122 e_int hx1124 (fun v9 H9 G9 w9 e9 r9 => k v9 H9 G9 w9.f (w9.sub1 (i := 0) rfl) r9)
    · intro hbb1119 H1125 w1126
      subst hbb1119
      refine x_next ?_
      refine x_retO ?_
      refine o_op ?_
      refine o_cb ?_
      refine o_cons ?_
      obtain ⟨x1127, hx1128, h⟩ := bindS h
      refine o_bm0 (j := 0) w1126 rfl rfl (c_pop (j := 0) w1126 rfl hx1128 ?_)
      intro v1129 H1130 w1131 r1132
      cases r1132
      have w1131 : Wo G H [l] G H1130 [(l, cL rI x1127.2)] := w1131
      refine o_nil ?_
      refine Or.inl ⟨_, rfl, ?_⟩
      obtain ⟨x1134, hx1135, h⟩ := bindS h
      refine c_i w1131 (e_var (R := rI) (x := many0) rfl rfl) hx1135 ?_
      intro H1136 w1137
      obtain ⟨x1138, hx1139, h⟩ := bindS h
      refine c_rr rr_mod w1137 rfl rfl hx1139 ?_
      intro u1140 H1141 G1142 w1143 e1144 r1145
      cases r1145
      obtain ⟨h8, h9⟩ : x1138 = r ∧ x1127.2 = k' := Prod.mk.inj (Option.some.inj h)
      subst h8
      subst h9
      exact k _ _ _ w1143.f (w1143.sub1 (i := 0) rfl) rfl
def m__law_masks_b2 (x1224 : (Int × (List Int))) (x1257 : Int) (s1247 : (List Int)) : Option (List Int) :=
  ((some (!s1247.any fun z => z == (Builtin.bitAnd x1257 x1224.1)) >>= fun b1265 => bif b1265 then (some (Builtin.bitAnd x1257 x1224.1) >>= fun a1284 => appM s1247 a1284 >>= fun more_1285 => some more_1285) else some s1247) >>= fun s1276 => some (s1276))
def m__law_masks_b1 (most0 : Int) (x1217 : Int) (s1202 : ((List Int) × (List Int))) : Option ((List Int) × (List Int)) :=
  (some (32 : Int) >>= fun x1219 => (m__law_draw s1202.2 x1219 >>= fun x1224 => (some s1202.1 >>= fun more_1233 => (some s1202.1 >>= fun xs1242 => forS (m__law_masks_b2 x1224) xs1242 more_1233 >>= fun s1247 => ((some (decide ((s1247.length : Int) ≤ most0)) >>= fun b1311 => bif b1311 then (some s1247 >>= fun masks_here_1332 => some masks_here_1332) else some s1202.1) >>= fun s1322 => some ((s1322, x1224.2)))))))
def m__law_masks_b3 (x1391 : Int) (s1381 : ((List Int) × ((List Int) × (List Int)))) : Option ((List Int) × ((List Int) × (List Int))) :=
  (some (s1381.2.2.length : Int) >>= fun x1393 => (m__law_draw s1381.2.1 x1393 >>= fun x1398 => (popAtM s1381.2.2 x1398.1 >>= fun x1407 => (appM s1381.1 x1407.1 >>= fun masks_here_1414 => some ((masks_here_1414, (x1398.2, x1407.2)))))))
def m__law_masks (pot_here0 : (List Int)) (most0 : Int) : Option ((List Int) × (List Int)) :=
  (some ([(31 : Int)]) >>= fun masks_here_1146 => (some (6 : Int) >>= fun x1154 => (m__law_draw pot_here0 x1154 >>= fun x1159 => (some (1 : Int) >>= fun x1169 => (some (x1159.1 + x1169) >>= fun x1173 => (some (6 : Int) >>= fun x1183 => (modM x1173 x1183 >>= fun x1187 => (rngM 0 x1187 >>= fun xs1197 => forS (m__law_masks_b1 most0) xs1197 (masks_here_1146, x1159.2) >>= fun s1202 => ((if s1202.1.length < 64 then some (srtI s1202.1) else none) >>= fun rest_1352 => (some (rest_1352.length : Int) >>= fun size_1361 => (some ([]) >>= fun masks_here_1365 => (some size_1361 >>= fun n1374 => rngM 0 n1374 >>= fun xs1376 => forS (m__law_masks_b3) xs1376 (masks_here_1365, (s1202.2, rest_1352)) >>= fun s1381 => some (s1381.1, s1381.2.1)))))))))))))
theorem sc__law_masks : FnScope ["_law_pot_here", "_law_most", "_law_masks_here", "_law_k", "_law_rest", "_law_size", "_law_mask", "_law_more", "_law_old"] ["_law_pot_here", "_law_most"] (defScope s__law_masks) := ⟨rfl, rfl, rfl, by decide +kernel, rfl, by decide +kernel, by decide +kernel⟩
theorem ok__law_masks (T : Tx K mg) : Fk P w K mg base CX0 2 "_law_masks" ["_law_pot_here", "_law_most"] (P1L (aC rI aN) rI rI (fun ys i => m__law_masks ys i.1)) := by
  obtain ⟨fd__law_draw, G__law_draw, b__law_draw, k__law_draw, g__law_draw⟩ := ok__law_draw (w := w) (base := base) T
  obtain ⟨fd, F⟩ := T.def_ 18 rfl
  have nd := sc__law_masks.nd
  refine fk_mk T.toTx (x := "_law_masks") (T.glo 19 rfl) F (fun _ _ _ _ _ _ us hl => match us, hl with | [_, _], _ => rfl) (F.ok sc__law_masks (fun vs H Q E h => ?_) (fun cdv A outer s H vs Q E hr h => ?_))
  · obtain ⟨G, ⟨l, ⟨most0, ⟨⟩⟩⟩, pot_here0, r, k', ⟨_, _, rfl, rfl, ⟨vmost0, _, rfl, hmost0, rfl⟩⟩, wd, h, k⟩ := h
    rfl
  · obtain ⟨G, ⟨l, ⟨most0, ⟨⟩⟩⟩, pot_here0, r, k', ⟨_, _, rfl, rfl, ⟨vmost0, _, rfl, hmost0, rfl⟩⟩, wd, h, k⟩ := h
    cases hmost0
    have w0 : Wo G H [l] G H _ := Wo.startC wd
    have h : m__law_masks pot_here0 most0 = some (r, k') := h
    unfold m__law_masks at h
    refine ⟨_, PSs.nox (pss_cons (ps_set (i := 2) nd rfl (Or.inl rfl) (pe_lst (pa_cons pe_int pa_nil))) (pss_cons (ps_for PassesOwn.never rfl (pi_range1 (by rfl) (fr_range T) (pa_cons (pe_op op_mod (pe_callTy call_int1 (by rfl) (fr_int T) (by decide +kernel) (pa_cons (pe_op op_add (pe_call G__law_draw (hr.mono (by decide)) rfl g__law_draw k__law_draw b__law_draw .nil pass0 (pa_cons (pv 0) (pa_cons pe_int pa_nil))) pe_int) pa_nil)) pe_int) pa_nil)) (pg_name (i := 3) nd rfl (Or.inl rfl)) (pss_cons (ps_set (i := 6) nd rfl (Or.inl rfl) (pe_call G__law_draw (hr.mono (by decide)) rfl g__law_draw k__law_draw b__law_draw .nil pass0 (pa_cons (pv 0) (pa_cons pe_int pa_nil)))) (pss_cons (ps_set (i := 7) nd rfl (Or.inl rfl) (pe_callTy (r := rLs K) call_list_of (by rfl) (fr_list T) (by decide +kernel) (pa_cons (pv 2) pa_nil))) (pss_cons (ps_for PassesOwn.never rfl (pi_list (pv 2)) (pg_name (i := 8) nd rfl (Or.inl rfl)) (Evl.pss_cut (ps_if (pt_cmpR (r := rIn K true) op_notIn_seq (pe_op op_and (pv 8) (pv 6)) (pv 7) (by rfl)) (pss_cons (ps_expr (pe_bm PySem.F.plainAttrs_list PySem.F.slot_list_append PySem.F.type_list_append mt_append (pv 7) (pa_cons (pe_op op_and (pv 8) (pv 6)) pa_nil))) pss_nil) pss_nil) pss_nil)) (Evl.pss_cut (ps_if (pt_cmpR op_le (pe_callB (r := rLn K) call_len_seq (by rfl) (fr_len T) (by decide +kernel) (pa_cons (pv 7) pa_nil)) (pv 1) (nomark _)) (pss_cons (ps_set (i := 2) nd rfl (Or.inl rfl) (pe_callTy (r := rLs K) call_list_of (by rfl) (fr_list T) (by decide +kernel) (pa_cons (pv 7) pa_nil))) pss_nil) pss_nil) pss_nil))))) (pss_cons (ps_set (i := 4) nd rfl (Or.inl rfl) (pe_callB (r := rSorted K) cr_sorted (by rfl) (fr_sorted T) (by decide +kernel) (pa_cons (pv 2) pa_nil))) (pss_cons (ps_set (i := 5) nd rfl (Or.inl rfl) (pe_callB (r := rLn K) call_len_seq (by rfl) (fr_len T) (by decide +kernel) (pa_cons (pv 4) pa_nil))) (pss_cons (ps_set (i := 2) nd rfl (Or.inl rfl) (pe_lst pa_nil)) (pss_cons (ps_for PassesOwn.never rfl (pi_range1 (by rfl) (fr_range T) (pa_cons (pv 5) pa_nil)) (pg_name (i := 3) nd rfl (Or.inl rfl)) (pss_cons (ps_expr (pe_bm PySem.F.plainAttrs_list PySem.F.slot_list_append PySem.F.type_list_append mt_append (pv 2) (pa_cons (pe_bm PySem.F.plainAttrs_list PySem.F.slot_list_pop PySem.F.type_list_pop mt_popAt (pv 4) (pa_cons (pe_call G__law_draw (hr.mono (by decide)) rfl g__law_draw k__law_draw b__law_draw .nil pass0 (pa_cons (pv 0) (pa_cons (pe_callB (r := rLn K) call_len_seq (by rfl) (fr_len T) (by decide +kernel) (pa_cons (pv 4) pa_nil)) pa_nil))) pa_nil)) pa_nil))) pss_nil)) (pss_cons (ps_ret (pv 2)) pss_nil))))))), ?_⟩
    obtain ⟨masks_here_1146, hx1147, h⟩ := bindS h
    refine x_set w0 (EL.e (el_disp (eal_cons e_int eal_nil))) hx1147 ?_
    intro v1150 H1148 G1151 w1149 e1152 h1153
    refine o_forR ?_
    refine o_cons ?_
    refine o_op ?_
    refine o_cb ?_
    refine o_cons ?_
    refine o_op ?_
    refine o_call ?_
    refine o_cons ?_
    refine o_var rfl ?_
    refine o_cons ?_
    obtain ⟨x1154, hx1155, h⟩ := bindS h
    refine c_i w1149 e_int hx1155 ?_
    intro H1156 w1157
    refine o_nil ?_
    obtain ⟨x1159, hx1160, h⟩ := bindS h
    refine c_p1 (i := 0) (j := (x1154, ())) w1157 rfl ⟨_, _, rfl, rfl, rfl⟩ hx1160 ?_
    intro u1161 H1162 G1163 w1164 e1165 r1166
    have h1167 := Rep.mono _ e1165 h1153
    cases r1166
    have w1164 : Wo G H [l] G1163 H1162 [(l, cL rI x1159.2)] := w1164
    obtain ⟨x1169, hx1170, h⟩ := bindS h
    refine c_i w1164 e_int hx1170 ?_
    intro H1171 w1172
    obtain ⟨x1173, hx1174, h⟩ := bindS h
    refine c_rr rr_add w1172 rfl rfl hx1174 ?_
    intro u1175 H1176 G1177 w1178 e1179 r1180
    have h1181 := Rep.mono _ e1179 h1167
    cases r1180
    refine o_nil ?_
    refine Or.inl ⟨_, rfl, ?_⟩
    obtain ⟨x1183, hx1184, h⟩ := bindS h
    refine c_i w1178 e_int hx1184 ?_
    intro H1185 w1186
    obtain ⟨x1187, hx1188, h⟩ := bindS h
    refine c_rr rr_mod w1186 rfl rfl hx1188 ?_
    intro u1189 H1190 G1191 w1192 e1193 r1194
    have h1195 := Rep.mono _ e1193 h1181
    cases r1194
    refine o_nil ?_
    obtain ⟨xs1197, hx1198, h⟩ := bindS h
    obtain ⟨t1200, hx1201, h⟩ := bindS h
    refine v_forR w1192 hx1198 (fun i G' H' σ' => ∃ s1202 : ((List Int) × (List Int)), ∃ v1203 : V, ∃ u1205 : Option V, ∃ u1206 : Option V, ∃ u1207 : Option V, ∃ u1208 : Option V, Wo G H [l] G' H' [(l, cL rI s1202.2)] ∧ Evl.Ex G1191 G' ∧ σ' = [some (V.ref l), some (V.int most0), some v1203, u1205, none, none, u1206, u1207, u1208] ∧ (rL rI).r G' v1203 s1202.1 ∧ forS (m__law_masks_b1 most0) (xs1197.drop i) s1202 = some t1200) ?_ ?_ ?_
    · exact ⟨(masks_here_1146, x1159.2), v1150, (none), (none), (none), (none), w1192, (Evl.Ex.refl _), rfl, (Rep.mono _ (Evl.Ex.refl _) h1195), hx1201⟩
    · rintro i1216 x1217 σ' G1212 H1215 hx1218 ⟨s1202, v1203, u1205, u1206, u1207, u1208, w1213, e1214, rfl, h1204, hm1210⟩
      obtain ⟨q1211, hb1209, hm1210⟩ := forS_at hx1218 hm1210
      refine g_name ?_
      unfold m__law_masks_b1 at hb1209
      refine x_setO ?_
      refine o_call ?_
      refine o_cons ?_
      refine o_var rfl ?_
      refine o_cons ?_
      obtain ⟨x1219, hx1220, hb1209⟩ := bindS hb1209
      refine c_i w1213 e_int hx1220 ?_
      intro H1221 w1222
      refine o_nil ?_
      obtain ⟨x1224, hx1225, hb1209⟩ := bindS hb1209
      refine c_p1 (i := 0) (j := (x1219, ())) w1222 rfl ⟨_, _, rfl, rfl, rfl⟩ hx1225 ?_
      intro u1226 H1227 G1228 w1229 e1230 r1231
      have h1232 := Rep.mono _ e1230 h1204
      cases r1231
      have w1229 : Wo G H [l] G1228 H1227 [(l, cL rI x1224.2)] := w1229
      obtain ⟨more_1233, hx1234, hb1209⟩ := bindS hb1209
      refine x_setL w1229 (el_cb rc_listL (ea_cons (e_var (R := (rL rI)) (x := s1202.1) rfl h1232) ea_nil)) hx1234 ?_
      intro p1237 H1235 G1238 n1239 w1236 e1240
      have h1241 := Rep.mono _ e1240 h1232
      obtain ⟨xs1242, hx1243, hb1209⟩ := bindS hb1209
      obtain ⟨t1245, hx1246, hb1209⟩ := bindS hb1209
      refine x_forL w1236 (e_var (R := (rL rI)) (x := s1202.1) rfl h1241) hx1243 (fun i G' H' σ' => ∃ s1247 : (List Int), ∃ u1248 : Option V, Wo G H [l] G' H' [(p1237, cL rI s1247), (l, cL rI x1224.2)] ∧ Evl.Ex G1238 G' ∧ σ' = [some (V.ref l), some (V.int most0), some v1203, some (V.int x1217), none, none, some (V.int x1224.1), some (V.ref p1237), u1248] ∧ forS (m__law_masks_b2 x1224) (xs1242.drop i) s1247 = some t1245) (fun _ _ _ _ ⟨_, _, w, _⟩ => w.ex) ?_ ?_ ?_
      · intro G' H' w' e'
        exact ⟨more_1233, (u1208), w', e', rfl, hx1246⟩
      · rintro G1259 e1260 i1256 x1257 v1261 σ' G1252 H1255 hx1258 e1263 ⟨s1247, u1248, w1253, e1254, rfl, hm1250⟩ r1262
        obtain ⟨q1251, hb1249, hm1250⟩ := forS_at hx1258 hm1250
        have h1264 := Rep.mono _ e1254 h1241
        refine g_name ?_
        cases r1262
        unfold m__law_masks_b2 at hb1249
        obtain ⟨s1276, hx1277, hb1249⟩ := bindS hb1249
        refine o_cut (fun σ' H' => ∃ G' : Hp, Wo G H [l] G' H' [(p1237, cL rI s1276), (l, cL rI x1224.2)] ∧ Evl.Ex G1252 G' ∧ σ' = [some (V.ref l), some (V.int most0), some v1203, some (V.int x1217), none, none, some (V.int x1224.1), some (V.ref p1237), some (V.int x1257)]) ?_ ?_
        · obtain ⟨b1265, hx1281, hx1277⟩ := bindS hx1277
          refine x_if w1253 (et_T (e_op (rr_ninL flI) (e_op rr_and (e_var (R := rI) (x := x1257) rfl rfl) (e_var (R := rI) (x := x1224.1) rfl rfl)) (e_var (R := rL rI) (x := s1247) rfl (w1253.rlAt (i := 0) rfl)))) hx1281 ?_ ?_
          · intro hbb1265 H1282 w1283
            subst hbb1265
            obtain ⟨a1284, hx1286, hx1277⟩ := bindS hx1277
            obtain ⟨more_1285, hx1287, hx1277⟩ := bindS hx1277
            obtain ⟨hs1288, rfl⟩ := appM_ok hx1287
            refine x_app (j := 0) w1283 rfl hs1288 rfl (e_op rr_and (e_var (R := rI) (x := x1257) rfl rfl) (e_var (R := rI) (x := x1224.1) rfl rfl)) hx1286 ?_
            intro H1289 G1290 w1291 e1292
            have h1293 := Rep.mono _ e1292 h1264
            have w1291 : Wo G H [l] G1290 H1289 [(p1237, cL rI (s1247 ++ [a1284])), (l, cL rI x1224.2)] := w1291
            refine x_next ?_
            have hx1277 : (s1247 ++ [a1284]) = s1276 := Option.some.inj hx1277
            subst hx1277
            exact ⟨G1290, w1291, e1292, rfl⟩
          · intro hbb1265 H1294 w1295
            subst hbb1265
            refine x_next ?_
            have hx1277 : s1247 = s1276 := Option.some.inj hx1277
            subst hx1277
            exact ⟨G1252, w1295, (Evl.Ex.refl _), rfl⟩
        · rintro σ' H1298 ⟨G1296, w1279, e1278, rfl⟩
          have h1297 := Rep.mono _ e1278 h1264
          refine x_next ?_
          have hb1249 : s1276 = q1251 := Option.some.inj hb1249
          subst hb1249
          exact ⟨G1296, (e1263.trans e1278), s1276, (some (V.int x1257)), w1279, (e1254.trans e1278), rfl, hm1250⟩
      · rintro σ' G1299 H1302 e1303 ⟨s1247, u1248, w1300, e1301, rfl, hm1250⟩
        have hm1250 := forS_end hm1250
        subst hm1250
        have h1305 := Rep.mono _ e1301 h1241
        obtain ⟨G1306, w1307, e1308, h1309⟩ := w1300.freezeAt (i := 0) rfl n1239
        have h1310 := Rep.mono _ e1308 h1305
        have w1307 : Wo G H [l] G1306 H1302 [(l, cL rI x1224.2)] := w1307
        obtain ⟨s1322, hx1323, hb1209⟩ := bindS hb1209
        refine o_cut (fun σ' H' => ∃ v1324 : V, ∃ G' : Hp, Wo G H [l] G' H' [(l, cL rI x1224.2)] ∧ Evl.Ex G1306 G' ∧ σ' = [some (V.ref l), some (V.int most0), some v1324, some (V.int x1217), none, none, some (V.int x1224.1), some (V.ref p1237), u1248] ∧ (rL rI).r G' v1324 s1322) ?_ ?_
        · obtain ⟨b1311, hx1329, hx1323⟩ := bindS hx1323
          refine x_if w1307 (et_T (e_op rr_le (e_cb rc_lenL (ea_cons (e_var (R := (rL rI)) (x := s1247) rfl (Rep.mono _ w1307.ex h1309)) ea_nil)) (e_var (R := rI) (x := most0) rfl rfl))) hx1329 ?_ ?_
          · intro hbb1311 H1330 w1331
            subst hbb1311
            obtain ⟨masks_here_1332, hx1333, hx1323⟩ := bindS hx1323
            refine x_set w1331 (EL.e (el_cb rc_listL (ea_cons (e_var (R := (rL rI)) (x := s1247) rfl h1309) ea_nil))) hx1333 ?_
            intro v1336 H1334 G1337 w1335 e1338 h1339
            have h1340 := Rep.mono _ e1338 h1310
            have h1341 := Rep.mono _ e1338 h1309
            refine x_next ?_
            have hx1323 : masks_here_1332 = s1322 := Option.some.inj hx1323
            subst hx1323
            exact ⟨v1336, G1337, w1335, e1338, rfl, h1339⟩
          · intro hbb1311 H1342 w1343
            subst hbb1311
            refine x_next ?_
            have hx1323 : s1202.1 = s1322 := Option.some.inj hx1323
            subst hx1323
            exact ⟨v1203, G1306, w1343, (Evl.Ex.refl _), rfl, h1310⟩
        · rintro σ' H1346 ⟨v1324, G1344, w1327, e1326, rfl, h1325⟩
          have h1345 := Rep.mono _ e1326 h1309
          refine x_next ?_
          have hb1209 : (s1322, x1224.2) = q1211 := Option.some.inj hb1209
          subst hb1209
          exact ⟨G1344, (s1322, x1224.2), v1324, (some (V.int x1217)), (some (V.int x1224.1)), (some (V.ref p1237)), (u1248), w1327, (((((e1214.trans e1230).trans e1240).trans e1301).trans e1308).trans e1326), rfl, h1325, hm1210⟩
    · rintro σ' G1347 H1350 ⟨s1202, v1203, u1205, u1206, u1207, u1208, w1348, e1349, rfl, h1204, hm1210⟩
      have hm1210 := forS_end hm1210
      subst hm1210
      obtain ⟨rest_1352, hx1353, h⟩ := bindS h
      refine x_setL w1348 (el_cb rc_sorted (ea_cons (e_var (R := (rL rI)) (x := s1202.1) rfl h1204) ea_nil)) hx1353 ?_
      intro p1356 H1354 G1357 n1358 w1355 e1359
      have h1360 := Rep.mono _ e1359 h1204
      obtain ⟨size_1361, hx1362, h⟩ := bindS h
      refine x_setI w1355 (Sim.E.s scI (e_cb rc_lenL (ea_cons (e_var (R := rL rI) (x := rest_1352) rfl (w1355.rlAt (i := 0) rfl)) ea_nil))) hx1362 ?_
      intro H1363 w1364
      obtain ⟨masks_here_1365, hx1366, h⟩ := bindS h
      refine x_setL w1364 (el_disp (R := rI) eal_nil) hx1366 ?_
      intro p1369 H1367 G1370 n1371 w1368 e1372
      have h1373 := Rep.mono _ e1372 h1360
      obtain ⟨n1374, hx1375, h⟩ := bindS h
      obtain ⟨xs1376, hx1377, h⟩ := bindS h
      obtain ⟨t1379, hx1380, h⟩ := bindS h
      refine x_forR w1368 (ea_cons (Sim.E.is (e_var (R := rI) (x := size_1361) rfl rfl) hx1375) ea_nil) rfl hx1377 (fun i G' H' σ' => ∃ s1381 : ((List Int) × ((List Int) × (List Int))), ∃ u1382 : Option V, Wo G H [l] G' H' [(p1369, cL rI s1381.1), (p1356, cL rI s1381.2.2), (l, cL rI s1381.2.1)] ∧ Evl.Ex G1370 G' ∧ σ' = [some (V.ref l), some (V.int most0), some (V.ref p1369), u1382, some (V.ref p1356), some (V.int size_1361), u1206, u1207, u1208] ∧ forS (m__law_masks_b3) (xs1376.drop i) s1381 = some t1379) ?_ ?_ ?_
      · intro G' H' w' e'
        exact ⟨(masks_here_1365, (s1202.2, rest_1352)), (u1205), w', e', rfl, hx1380⟩
      · rintro i1390 x1391 σ' G1386 H1389 hx1392 ⟨s1381, u1382, w1387, e1388, rfl, hm1384⟩
        obtain ⟨q1385, hb1383, hm1384⟩ := forS_at hx1392 hm1384
        refine g_name ?_
        unfold m__law_masks_b3 at hb1383
        refine x_drop ?_
        refine o_bm (j := 0) w1387 rfl rfl ?_
        refine o_cons ?_
        refine o_bm (j := 1) w1387 rfl rfl ?_
        refine o_cons ?_
        refine o_call ?_
        refine o_cons ?_
        refine o_var rfl ?_
        refine o_cons ?_
        obtain ⟨x1393, hx1394, hb1383⟩ := bindS hb1383
        refine c_i w1387 (Sim.E.s scI (e_cb rc_lenL (ea_cons (e_var (R := rL rI) (x := s1381.2.2) rfl (w1387.rlAt (i := 1) rfl)) ea_nil))) hx1394 ?_
        intro H1395 w1396
        refine o_nil ?_
        obtain ⟨x1398, hx1399, hb1383⟩ := bindS hb1383
        refine c_p1 (i := 2) (j := (x1393, ())) w1396 rfl ⟨_, _, rfl, rfl, rfl⟩ hx1399 ?_
        intro u1400 H1401 G1402 w1403 e1404 r1405
        cases r1405
        have w1403 : Wo G H [l] G1402 H1401 [(p1369, cL rI s1381.1), (p1356, cL rI s1381.2.2), (l, cL rI x1398.2)] := w1403
        refine o_nil ?_
        obtain ⟨x1407, hx1408, hb1383⟩ := bindS hb1383
        refine c_popAt (j := 1) w1403 rfl hx1408 ?_
        intro v1409 H1410 w1411 r1412
        cases r1412
        have w1411 : Wo G H [l] G1402 H1410 [(p1369, cL rI s1381.1), (p1356, cL rI x1407.2), (l, cL rI x1398.2)] := w1411
        refine o_nil ?_
        obtain ⟨masks_here_1414, hx1415, hb1383⟩ := bindS hb1383
        obtain ⟨hs1418, q1419⟩ := appM_ok hx1415
        subst q1419
        refine c_app (j := 0) w1411 rfl hs1418 rfl ?_
        intro H1416 w1417
        have w1417 : Wo G H [l] G1402 H1416 [(p1369, cL rI (s1381.1 ++ [x1407.1])), (p1356, cL rI x1407.2), (l, cL rI x1398.2)] := w1417
        refine x_next ?_
        have hb1383 : ((s1381.1 ++ [x1407.1]), (x1398.2, x1407.2)) = q1385 := Option.some.inj hb1383
        subst hb1383
        exact ⟨G1402, ((s1381.1 ++ [x1407.1]), (x1398.2, x1407.2)), (some (V.int x1391)), w1417, (e1388.trans e1404), rfl, hm1384⟩
      · rintro σ' G1420 H1423 ⟨s1381, u1382, w1421, e1422, rfl, hm1384⟩
        have hm1384 := forS_end hm1384
        subst hm1384
        obtain ⟨h8, h9⟩ : s1381.1 = r ∧ s1381.2.1 = k' := Prod.mk.inj (Option.some.inj h)
        subst h8
        subst h9
        refine x_retO (o_var rfl ?_)
        exact k _ _ _ n1371 w1421.f (w1421.sub2 (i := 0) (j := 2) rfl rfl (by decide))
def m__law_under (masks_here0 : (List Int)) (low0 : Int) (high0 : Int) : Option Bool :=
  (((atI masks_here0 low0 >>= fun t1425 => (atI masks_here0 high0 >>= fun t1426 => some (Builtin.bitAnd t1425 t1426))) >>= fun t1427 => (atI masks_here0 low0 >>= fun t1428 => some (t1427 == t1428))) >>= fun a1429 => some a1429)
theorem sc__law_under : FnScope ["_law_masks_here", "_law_low", "_law_high"] ["_law_masks_here", "_law_low", "_law_high"] (defScope s__law_under) := ⟨rfl, rfl, rfl, by decide +kernel, rfl, by decide +kernel, by decide +kernel⟩
theorem ok__law_under (T : Tx K mg) : Fk P w K mg base CX0 1 "_law_under" ["_law_masks_here", "_law_low", "_law_high"] (PF (aC (rL rI) (aC rI (aC rI aN))) rB (fun i => m__law_under i.1 i.2.1 i.2.2.1)) := by
  obtain ⟨fd, F⟩ := T.def_ 19 rfl
  have nd := sc__law_under.nd
  refine fk_mk T.toTx (x := "_law_under") (T.glo 20 rfl) F (fun _ _ _ _ _ _ us hl => match us, hl with | [_, _, _], _ => rfl) (F.ok sc__law_under (fun vs H Q E h => ?_) (fun cdv A outer s H vs Q E hr h => ?_))
  · obtain ⟨G, ⟨masks_here0, low0, high0, ⟨⟩⟩, r, e0, ⟨vmasks_here0, _, rfl, hmasks_here0, vlow0, _, rfl, hlow0, vhigh0, _, rfl, hhigh0, rfl⟩, h, k⟩ := h
    rfl
  · obtain ⟨G, ⟨masks_here0, low0, high0, ⟨⟩⟩, r, e0, ⟨vmasks_here0, _, rfl, hmasks_here0, vlow0, _, rfl, hlow0, vhigh0, _, rfl, hhigh0, rfl⟩, h, k⟩ := h
    cases hlow0
    cases hhigh0
    have w0 := Wo.start e0
    have h : m__law_under masks_here0 low0 high0 = some r := h
    unfold m__law_under at h
    refine ⟨_, PSs.nox (pss_cons (ps_ret (pe_cmpR op_eq (pe_op op_and (pe_ix (r := rIxL K) ix_list (pv 0) (pv 1) (fun _ _ => rfl)) (pe_ix (r := rIxL K) ix_list (pv 0) (pv 2) (fun _ _ => rfl))) (pe_ix (r := rIxL K) ix_list (pv 0) (pv 1) (fun _ _ => rfl)) (nomark _))) pss_nil), ?_⟩
    obtain ⟨a1429, hx1430, h⟩ := bindS h
    have h : a1429 = r := Option.some.inj h
    subst h
    exact x_ret w0 (e_op rr_eqI (e_op rr_and (e_op rr_ixL (e_var (R := (rL rI)) (x := masks_here0) rfl hmasks_here0) (e_var (R := rI) (x := low0) rfl rfl)) (e_op rr_ixL (e_var (R := (rL rI)) (x := masks_here0) rfl hmasks_here0) (e_var (R := rI) (x := high0) rfl rfl))) (e_op rr_ixL (e_var (R := (rL rI)) (x := masks_here0) rfl hmasks_here0) (e_var (R := rI) (x := low0) rfl rfl))) (by first | exact hx1430 | (simp only [Option.bind_eq_bind, Option.bind_some, Option.bind_assoc] at hx1430 ⊢; exact hx1430)) (fun v9 H9 G9 w9 e9 r9 => k v9 H9 G9 w9.upE r9)
def m__law_pairs_b2 (x1458 : Int) (masks_here0 : (List Int)) (x1478 : Int) (s1468 : (List (Int × Int))) : Option (List (Int × Int)) :=
  (((andO (some (!(x1458 == x1478))) (m__law_under masks_here0 x1458 x1478)) >>= fun b1481 => bif b1481 then (some (x1458, x1478) >>= fun a1500 => appM s1468 a1500 >>= fun pairs_here_1501 => some pairs_here_1501) else some s1468) >>= fun s1492 => some (s1492))
def m__law_pairs_b1 (masks_here0 : (List Int)) (x1458 : Int) (s1447 : (List (Int × Int))) : Option (List (Int × Int)) :=
  (some (masks_here0.length : Int) >>= fun n1461 => rngM 0 n1461 >>= fun xs1463 => forS (m__law_pairs_b2 x1458 masks_here0) xs1463 s1447 >>= fun s1468 => some (s1468))
def m__law_pairs (masks_here0 : (List Int)) : Option (List (Int × Int)) :=
  (some ([]) >>= fun pairs_here_1431 => (some (masks_here0.length : Int) >>= fun n1440 => rngM 0 n1440 >>= fun xs1442 => forS (m__law_pairs_b1 masks_here0) xs1442 pairs_here_1431 >>= fun s1447 => some s1447))
theorem sc__law_pairs : FnScope ["_law_masks_here", "_law_pairs_here", "_law_low", "_law_high"] ["_law_masks_here"] (defScope s__law_pairs) := ⟨rfl, rfl, rfl, by decide +kernel, rfl, by decide +kernel, by decide +kernel⟩
theorem ok__law_pairs (T : Tx K mg) : Fk P w K mg base CX0 2 "_law_pairs" ["_law_masks_here"] (PL (aC (rL rI) aN) (rP rI rI) (fun i => m__law_pairs i.1)) := by
  obtain ⟨fd__law_under, G__law_under, b__law_under, k__law_under, g__law_under⟩ := ok__law_under (w := w) (base := base) T
  obtain ⟨fd, F⟩ := T.def_ 20 rfl
  have nd := sc__law_pairs.nd
  refine fk_mk T.toTx (x := "_law_pairs") (T.glo 21 rfl) F (fun _ _ _ _ _ _ us hl => match us, hl with | [_], _ => rfl) (F.ok sc__law_pairs (fun vs H Q E h => ?_) (fun cdv A outer s H vs Q E hr h => ?_))
  · obtain ⟨G, ⟨masks_here0, ⟨⟩⟩, r, e0, ⟨vmasks_here0, _, rfl, hmasks_here0, rfl⟩, h, k⟩ := h
    rfl
  · obtain ⟨G, ⟨masks_here0, ⟨⟩⟩, r, e0, ⟨vmasks_here0, _, rfl, hmasks_here0, rfl⟩, h, k⟩ := h
    have w0 := Wo.start e0
    have h : m__law_pairs masks_here0 = some r := h
    unfold m__law_pairs at h
    refine ⟨_, PSs.nox (pss_cons (ps_set (i := 1) nd rfl (Or.inl rfl) (pe_lst pa_nil)) (pss_cons (ps_for PassesOwn.never rfl (pi_range1 (by rfl) (fr_range T) (pa_cons (pe_callB (r := rLn K) call_len_seq (by rfl) (fr_len T) (by decide +kernel) (pa_cons (pv 0) pa_nil)) pa_nil)) (pg_name (i := 2) nd rfl (Or.inl rfl)) (pss_cons (ps_for PassesOwn.never rfl (pi_range1 (by rfl) (fr_range T) (pa_cons (pe_callB (r := rLn K) call_len_seq (by rfl) (fr_len T) (by decide +kernel) (pa_cons (pv 0) pa_nil)) pa_nil)) (pg_name (i := 3) nd rfl (Or.inl rfl)) (Evl.pss_cut (ps_if (PW.pt (pw_and (pt_cmpR op_ne (pv 2) (pv 3) (nomark _)) (pw_and1 (pt_val (pe_call G__law_under (hr.mono (by decide)) rfl g__law_under k__law_under b__law_under .nil pass0 (pa_cons (pv 0) (pa_cons (pv 2) (pa_cons (pv 3) pa_nil)))))))) (pss_cons (ps_expr (pe_bm PySem.F.plainAttrs_list PySem.F.slot_list_append PySem.F.type_list_append mt_append (pv 1) (pa_cons (pe_tup (pa_cons (pv 2) (pa_cons (pv 3) pa_nil))) pa_nil))) pss_nil) pss_nil) pss_nil)) pss_nil)) (pss_cons (ps_ret (pv 1)) pss_nil))), ?_⟩
    obtain ⟨pairs_here_1431, hx1432, h⟩ := bindS h
    refine x_setL w0 (el_disp (R := (rP rI rI)) eal_nil) hx1432 ?_
    intro p1435 H1433 G1436 n1437 w1434 e1438
    have h1439 := Rep.mono _ e1438 hmasks_here0
    obtain ⟨n1440, hx1441, h⟩ := bindS h
    obtain ⟨xs1442, hx1443, h⟩ := bindS h
    obtain ⟨t1445, hx1446, h⟩ := bindS h
    refine x_forR w1434 (ea_cons (Sim.E.is (e_cb rc_lenL (ea_cons (e_var (R := (rL rI)) (x := masks_here0) rfl h1439) ea_nil)) hx1441) ea_nil) rfl hx1443 (fun i G' H' σ' => ∃ s1447 : (List (Int × Int)), ∃ u1448 : Option V, ∃ u1449 : Option V, Wo G H [] G' H' [(p1435, cL (rP rI rI) s1447)] ∧ Evl.Ex G1436 G' ∧ σ' = [some vmasks_here0, some (V.ref p1435), u1449, u1448] ∧ forS (m__law_pairs_b1 masks_here0) (xs1442.drop i) s1447 = some t1445) ?_ ?_ ?_
    · intro G' H' w' e'
      exact ⟨pairs_here_1431, (none), (none), w', e', rfl, hx1446⟩
    · rintro i1457 x1458 σ' G1453 H1456 hx1459 ⟨s1447, u1448, u1449, w1454, e1455, rfl, hm1451⟩
      obtain ⟨q1452, hb1450, hm1451⟩ := forS_at hx1459 hm1451
      have h1460 := Rep.mono _ e1455 h1439
      refine g_name ?_
      unfold m__law_pairs_b1 at hb1450
      obtain ⟨n1461, hx1462, hb1450⟩ := bindS hb1450
      obtain ⟨xs1463, hx1464, hb1450⟩ := bindS hb1450
      obtain ⟨t1466, hx1467, hb1450⟩ := bindS hb1450
      refine x_forR w1454 (ea_cons (Sim.E.is (e_cb rc_lenL (ea_cons (e_var (R := (rL rI)) (x := masks_here0) rfl h1460) ea_nil)) hx1462) ea_nil) rfl hx1464 (fun i G' H' σ' => ∃ s1468 : (List (Int × Int)), ∃ u1469 : Option V, Wo G H [] G' H' [(p1435, cL (rP rI rI) s1468)] ∧ Evl.Ex G1453 G' ∧ σ' = [some vmasks_here0, some (V.ref p1435), some (V.int x1458), u1469] ∧ forS (m__law_pairs_b2 x1458 masks_here0) (xs1463.drop i) s1468 = some t1466) ?_ ?_ ?_
      · intro G' H' w' e'
        exact ⟨s1447, (u1448), w', e', rfl, hx1467⟩
      · rintro i1477 x1478 σ' G1473 H1476 hx1479 ⟨s1468, u1469, w1474, e1475, rfl, hm1471⟩
        obtain ⟨q1472, hb1470, hm1471⟩ := forS_at hx1479 hm1471
        have h1480 := Rep.mono _ e1475 h1460
        refine g_name ?_
        unfold m__law_pairs_b2 at hb1470
        obtain ⟨s1492, hx1493, hb1470⟩ := bindS hb1470
        refine o_cut (fun σ' H' => ∃ G' : Hp, Wo G H [] G' H' [(p1435, cL (rP rI rI) s1492)] ∧ Evl.Ex G1473 G' ∧ σ' = [some vmasks_here0, some (V.ref p1435), some (V.int x1458), some (V.int x1478)]) ?_ ?_
        · obtain ⟨b1481, hx1497, hx1493⟩ := bindS hx1493
          refine x_if w1474 (et_and (et_T (e_op rr_neI (e_var (R := rI) (x := x1458) rfl rfl) (e_var (R := rI) (x := x1478) rfl rfl))) (et_B (e_call (ea_cons (e_var (R := (rL rI)) (x := masks_here0) rfl (Rep.mono _ w1474.ex h1480)) (ea_cons (e_var (R := rI) (x := x1458) rfl rfl) (ea_cons (e_var (R := rI) (x := x1478) rfl rfl) ea_nil)))))) hx1497 ?_ ?_
          · intro hbb1481 H1498 w1499
            subst hbb1481
            obtain ⟨a1500, hx1502, hx1493⟩ := bindS hx1493
            obtain ⟨pairs_here_1501, hx1503, hx1493⟩ := bindS hx1493
            obtain ⟨hs1504, rfl⟩ := appM_ok hx1503
            refine x_app (j := 0) w1499 rfl hs1504 rfl (e_pair (e_var (R := rI) (x := x1458) rfl rfl) (e_var (R := rI) (x := x1478) rfl rfl)) hx1502 ?_
            intro H1505 G1506 w1507 e1508
            have h1509 := Rep.mono _ e1508 h1480
            have w1507 : Wo G H [] G1506 H1505 [(p1435, cL (rP rI rI) (s1468 ++ [a1500]))] := w1507
            refine x_next ?_
            have hx1493 : (s1468 ++ [a1500]) = s1492 := Option.some.inj hx1493
            subst hx1493
            exact ⟨G1506, w1507, e1508, rfl⟩
          · intro hbb1481 H1510 w1511
            subst hbb1481
            refine x_next ?_
            have hx1493 : s1468 = s1492 := Option.some.inj hx1493
            subst hx1493
            exact ⟨G1473, w1511, (Evl.Ex.refl _), rfl⟩
        · rintro σ' H1514 ⟨G1512, w1495, e1494, rfl⟩
          have h1513 := Rep.mono _ e1494 h1480
          refine x_next ?_
          have hb1470 : s1492 = q1472 := Option.some.inj hb1470
          subst hb1470
          exact ⟨G1512, s1492, (some (V.int x1478)), w1495, (e1475.trans e1494), rfl, hm1471⟩
      · rintro σ' G1515 H1518 ⟨s1468, u1469, w1516, e1517, rfl, hm1471⟩
        have hm1471 := forS_end hm1471
        subst hm1471
        have h1520 := Rep.mono _ e1517 h1460
        refine x_next ?_
        have hb1450 : s1468 = q1452 := Option.some.inj hb1450
        subst hb1450
        exact ⟨G1515, s1468, (u1469), (some (V.int x1458)), w1516, (e1455.trans e1517), rfl, hm1451⟩
    · rintro σ' G1521 H1524 ⟨s1447, u1448, u1449, w1522, e1523, rfl, hm1451⟩
      have hm1451 := forS_end hm1451
      subst hm1451
      have h1526 := Rep.mono _ e1523 h1439
      have h : s1447 = r := Option.some.inj h
      subst h
      refine x_retO (o_var rfl ?_)
      exact k _ _ _ n1437 w1522.upE (w1522.sub1 (i := 0) rfl)
def m_Order_least_b1 (self0 : m_Order) (x1546 : Int) (s1536 : Int) : Option Int :=
  (((atI self0.f_meets s1536 >>= fun t1554 => atI t1554 x1546) >>= fun t1555 => t1555) >>= fun found_1556 => some (found_1556))
def m_Order_least (self0 : m_Order) : Option Int :=
  (some (0 : Int) >>= fun found_1527 => (some self0.f_members >>= fun xs1531 => forS (m_Order_least_b1 self0) xs1531 found_1527 >>= fun s1536 => (some s1536 >>= fun a1567 => some a1567)))
theorem sc_Order_least : FnScope ["self", "found", "value"] ["self"] (defScope s_Order_least) := ⟨rfl, rfl, rfl, by decide +kernel, rfl, by decide +kernel, by decide +kernel⟩
theorem ok_Order_least (T : Tx K mg) : Fp P w K mg base CX0 1 "Order" "least" ["self"] (PF (aC (r_Order K) aN) rI (fun i => m_Order_least i.1)) := by
  obtain ⟨_, fd, F⟩ := T.ge 0 rfl
  have nd := sc_Order_least.nd
  refine fp_mk F (fun _ _ _ _ _ _ us hl => match us, hl with | [_], _ => rfl) (F.ok sc_Order_least (fun vs H Q E h => ?_) (fun cdv A outer s H vs Q E hr h => ?_))
  · obtain ⟨G, ⟨self0, ⟨⟩⟩, r, e0, ⟨vself0, _, rfl, hself0, rfl⟩, h, k⟩ := h
    rfl
  · obtain ⟨G, ⟨self0, ⟨⟩⟩, r, e0, ⟨vself0, _, rfl, hself0, rfl⟩, h, k⟩ := h
    have w0 := Wo.start e0
    have h : m_Order_least self0 = some r := h
    unfold m_Order_least at h
    refine ⟨_, PSs.nox (pss_cons (ps_set (i := 1) nd rfl (Or.inl rfl) pe_int) (pss_cons (ps_for PassesOwn.never rfl (pi_list (pe_fld (pv 0) rfl)) (pg_name (i := 2) nd rfl (Or.inl rfl)) (pss_cons (ps_set (i := 1) nd rfl (Or.inl rfl) (pe_ix (r := rIxL K) ix_list (pe_ix (r := rIxL K) ix_list (pe_fld (pv 0) rfl) (pv 1) (fun _ _ => rfl)) (pv 2) (fun _ _ => rfl))) pss_nil)) (pss_cons (ps_ret (pv 1)) pss_nil))), ?_⟩
    obtain ⟨found_1527, hx1528, h⟩ := bindS h
    refine x_setI w0 e_int hx1528 ?_
    intro H1529 w1530
    obtain ⟨xs1531, hx1532, h⟩ := bindS h
    obtain ⟨t1534, hx1535, h⟩ := bindS h
    refine x_forL w1530 (e_fld 3 (fun (o : m_Order) => o.f_members) (e_var (R := (r_Order K)) (x := self0) rfl hself0) (T.cls 38 rfl) (T.noat 42 rfl) (by decide +kernel) (fun _ => rfl)) hx1532 (fun i G' H' σ' => ∃ s1536 : Int, ∃ u1537 : Option V, Wo G H [] G' H' [] ∧ Evl.Ex G G' ∧ σ' = [some vself0, some (V.int s1536), u1537] ∧ forS (m_Order_least_b1 self0) (xs1531.drop i) s1536 = some t1534) (fun _ _ _ _ ⟨_, _, w, _⟩ => w.ex) ?_ ?_ ?_
    · intro G' H' w' e'
      exact ⟨found_1527, (none), w', e', rfl, hx1535⟩
    · rintro G1548 e1549 i1545 x1546 v1550 σ' G1541 H1544 hx1547 e1552 ⟨s1536, u1537, w1542, e1543, rfl, hm1539⟩ r1551
      obtain ⟨q1540, hb1538, hm1539⟩ := forS_at hx1547 hm1539
      have h1553 := Rep.mono _ e1543 hself0
      refine g_name ?_
      cases r1551
      unfold m_Order_least_b1 at hb1538
      obtain ⟨found_1556, hx1557, hb1538⟩ := bindS hb1538
      refine x_setI w1542 (e_get (e_op rr_ixL (e_op rr_ixL (e_fld 2 (fun (o : m_Order) => o.f_meets) (e_var (R := (r_Order K)) (x := self0) rfl h1553) (T.cls 38 rfl) (T.noat 41 rfl) (by decide +kernel) (fun _ => rfl)) (e_var (R := rI) (x := s1536) rfl rfl)) (e_var (R := rI) (x := x1546) rfl rfl))) (by first | exact hx1557 | (simp only [Option.bind_eq_bind, Option.bind_some, Option.bind_assoc] at hx1557 ⊢; exact hx1557)) ?_
      intro H1558 w1559
      refine x_next ?_
      have hb1538 : found_1556 = q1540 := Option.some.inj hb1538
      subst hb1538
      exact ⟨G1541, (e1552.trans (Evl.Ex.refl _)), found_1556, (some (V.int x1546)), w1559, e1543, rfl, hm1539⟩
    · rintro σ' G1560 H1563 e1564 ⟨s1536, u1537, w1561, e1562, rfl, hm1539⟩
      have hm1539 := forS_end hm1539
      subst hm1539
      have h1566 := Rep.mono _ e1562 hself0
      obtain ⟨a1567, hx1568, h⟩ := bindS h
      have h : a1567 = r := Option.some.inj h
      subst h
      exact x_ret w1561 (e_var (R := rI) (x := s1536) rfl rfl) hx1568 (fun v9 H9 G9 w9 e9 r9 => k v9 H9 G9 w9.upE r9)
def m_Order_greatest_b1 (self0 : m_Order) (x1588 : Int) (s1578 : Int) : Option Int :=
  (((atI self0.f_joins s1578 >>= fun t1596 => atI t1596 x1588) >>= fun t1597 => t1597) >>= fun found_1598 => some (found_1598))
def m_Order_greatest (self0 : m_Order) : Option Int :=
  (some (0 : Int) >>= fun found_1569 => (some self0.f_members >>= fun xs1573 => forS (m_Order_greatest_b1 self0) xs1573 found_1569 >>= fun s1578 => (some s1578 >>= fun a1609 => some a1609)))
theorem sc_Order_greatest : FnScope ["self", "found", "value"] ["self"] (defScope s_Order_greatest) := ⟨rfl, rfl, rfl, by decide +kernel, rfl, by decide +kernel, by decide +kernel⟩
theorem ok_Order_greatest (T : Tx K mg) : Fp P w K mg base CX0 1 "Order" "greatest" ["self"] (PF (aC (r_Order K) aN) rI (fun i => m_Order_greatest i.1)) := by
  obtain ⟨_, fd, F⟩ := T.ge 1 rfl
  have nd := sc_Order_greatest.nd
  refine fp_mk F (fun _ _ _ _ _ _ us hl => match us, hl with | [_], _ => rfl) (F.ok sc_Order_greatest (fun vs H Q E h => ?_) (fun cdv A outer s H vs Q E hr h => ?_))
  · obtain ⟨G, ⟨self0, ⟨⟩⟩, r, e0, ⟨vself0, _, rfl, hself0, rfl⟩, h, k⟩ := h
    rfl
  · obtain ⟨G, ⟨self0, ⟨⟩⟩, r, e0, ⟨vself0, _, rfl, hself0, rfl⟩, h, k⟩ := h
    have w0 := Wo.start e0
    have h : m_Order_greatest self0 = some r := h
    unfold m_Order_greatest at h
    refine ⟨_, PSs.nox (pss_cons (ps_set (i := 1) nd rfl (Or.inl rfl) pe_int) (pss_cons (ps_for PassesOwn.never rfl (pi_list (pe_fld (pv 0) rfl)) (pg_name (i := 2) nd rfl (Or.inl rfl)) (pss_cons (ps_set (i := 1) nd rfl (Or.inl rfl) (pe_ix (r := rIxL K) ix_list (pe_ix (r := rIxL K) ix_list (pe_fld (pv 0) rfl) (pv 1) (fun _ _ => rfl)) (pv 2) (fun _ _ => rfl))) pss_nil)) (pss_cons (ps_ret (pv 1)) pss_nil))), ?_⟩
    obtain ⟨found_1569, hx1570, h⟩ := bindS h
    refine x_setI w0 e_int hx1570 ?_
    intro H1571 w1572
    obtain ⟨xs1573, hx1574, h⟩ := bindS h
    obtain ⟨t1576, hx1577, h⟩ := bindS h
    refine x_forL w1572 (e_fld 3 (fun (o : m_Order) => o.f_members) (e_var (R := (r_Order K)) (x := self0) rfl hself0) (T.cls 38 rfl) (T.noat 42 rfl) (by decide +kernel) (fun _ => rfl)) hx1574 (fun i G' H' σ' => ∃ s1578 : Int, ∃ u1579 : Option V, Wo G H [] G' H' [] ∧ Evl.Ex G G' ∧ σ' = [some vself0, some (V.int s1578), u1579] ∧ forS (m_Order_greatest_b1 self0) (xs1573.drop i) s1578 = some t1576) (fun _ _ _ _ ⟨_, _, w, _⟩ => w.ex) ?_ ?_ ?_
    · intro G' H' w' e'
      exact ⟨found_1569, (none), w', e', rfl, hx1577⟩
    · rintro G1590 e1591 i1587 x1588 v1592 σ' G1583 H1586 hx1589 e1594 ⟨s1578, u1579, w1584, e1585, rfl, hm1581⟩ r1593
      obtain ⟨q1582, hb1580, hm1581⟩ := forS_at hx1589 hm1581
      have h1595 := Rep.mono _ e1585 hself0
      refine g_name ?_
      cases r1593
      unfold m_Order_greatest_b1 at hb1580
      obtain ⟨found_1598, hx1599, hb1580⟩ := bindS hb1580
      refine x_setI w1584 (e_get (e_op rr_ixL (e_op rr_ixL (e_fld 1 (fun (o : m_Order) => o.f_joins) (e_var (R := (r_Order K)) (x := self0) rfl h1595) (T.cls 38 rfl) (T.noat 40 rfl) (by decide +kernel) (fun _ => rfl)) (e_var (R := rI) (x := s1578) rfl rfl)) (e_var (R := rI) (x := x1588) rfl rfl))) (by first | exact hx1599 | (simp only [Option.bind_eq_bind, Option.bind_some, Option.bind_assoc] at hx1599 ⊢; exact hx1599)) ?_
      intro H1600 w1601
      refine x_next ?_
      have hb1580 : found_1598 = q1582 := Option.some.inj hb1580
      subst hb1580
      exact ⟨G1583, (e1594.trans (Evl.Ex.refl _)), found_1598, (some (V.int x1588)), w1601, e1585, rfl, hm1581⟩
    · rintro σ' G1602 H1605 e1606 ⟨s1578, u1579, w1603, e1604, rfl, hm1581⟩
      have hm1581 := forS_end hm1581
      subst hm1581
      have h1608 := Rep.mono _ e1604 hself0
      obtain ⟨a1609, hx1610, h⟩ := bindS h
      have h : a1609 = r := Option.some.inj h
      subst h
      exact x_ret w1603 (e_var (R := rI) (x := s1578) rfl rfl) hx1610 (fun v9 H9 G9 w9 e9 r9 => k v9 H9 G9 w9.upE r9)
def m_Order_join_all_b1 (self0 : m_Order) (x1630 : Int) (s1620 : Int) : Option Int :=
  (m_Order_join_of self0 s1620 x1630 >>= fun found_1639 => some (found_1639))
def m_Order_join_all (self0 : m_Order) (several0 : (List Int)) : Option Int :=
  (m_Order_least self0 >>= fun found_1611 => (some several0 >>= fun xs1615 => forS (m_Order_join_all_b1 self0) xs1615 found_1611 >>= fun s1620 => (some s1620 >>= fun a1651 => some a1651)))
theorem sc_Order_join_all : FnScope ["self", "several", "found", "value"] ["self", "several"] (defScope s_Order_join_all) := ⟨rfl, rfl, rfl, by decide +kernel, rfl, by decide +kernel, by decide +kernel⟩
theorem ok_Order_join_all (T : Tx K mg) : Fm P w K mg base CX0 3 "Order" "join_all" ["self", "several"] (PF (aC (r_Order K) (aC (rL rI) aN)) rI (fun i => m_Order_join_all i.1 i.2.1)) := by
  obtain ⟨fd_Order_least, G_Order_least, b_Order_least⟩ := ok_Order_least (w := w) (base := base) T
  obtain ⟨fd_Order_join_of, G_Order_join_of, b_Order_join_of⟩ := ok_Order_join_of (w := w) (base := base) T
  obtain ⟨fd, F⟩ := T.def_ 13 rfl
  have nd := sc_Order_join_all.nd
  refine fm_mk F (fun _ _ _ _ _ _ us hl => match us, hl with | [_, _], _ => rfl) (F.ok sc_Order_join_all (fun vs H Q E h => ?_) (fun cdv A outer s H vs Q E hr h => ?_))
  · obtain ⟨G, ⟨self0, several0, ⟨⟩⟩, r, e0, ⟨vself0, _, rfl, hself0, vseveral0, _, rfl, hseveral0, rfl⟩, h, k⟩ := h
    rfl
  · obtain ⟨G, ⟨self0, several0, ⟨⟩⟩, r, e0, ⟨vself0, _, rfl, hself0, vseveral0, _, rfl, hseveral0, rfl⟩, h, k⟩ := h
    have w0 := Wo.start e0
    have h : m_Order_join_all self0 several0 = some r := h
    unfold m_Order_join_all at h
    refine ⟨_, PSs.nox (pss_cons (ps_set (i := 2) nd rfl (Or.inl rfl) (pe_prop (pv 0) (T.cls 38 rfl) (T.ge 0 rfl).1 G_Order_least (hr.mono (by decide)) b_Order_least .nil pass0 rfl)) (pss_cons (ps_for PassesOwn.never rfl (pi_list (pv 1)) (pg_name (i := 3) nd rfl (Or.inl rfl)) (pss_cons (ps_set (i := 2) nd rfl (Or.inl rfl) (pe_meth (pv 0) (T.cls 38 rfl) (T.meth 45 rfl) G_Order_join_of (hr.mono (by decide)) b_Order_join_of .nil pass0 (pa_cons (pv 2) (pa_cons (pv 3) pa_nil)))) pss_nil)) (pss_cons (ps_ret (pv 2)) pss_nil))), ?_⟩
    obtain ⟨found_1611, hx1612, h⟩ := bindS h
    refine x_setI w0 (e_prop (e_var (R := (r_Order K)) (x := self0) rfl hself0)) hx1612 ?_
    intro H1613 w1614
    obtain ⟨xs1615, hx1616, h⟩ := bindS h
    obtain ⟨t1618, hx1619, h⟩ := bindS h
    refine x_forL w1614 (e_var (R := (rL rI)) (x := several0) rfl hseveral0) hx1616 (fun i G' H' σ' => ∃ s1620 : Int, ∃ u1621 : Option V, Wo G H [] G' H' [] ∧ Evl.Ex G G' ∧ σ' = [some vself0, some vseveral0, some (V.int s1620), u1621] ∧ forS (m_Order_join_all_b1 self0) (xs1615.drop i) s1620 = some t1618) (fun _ _ _ _ ⟨_, _, w, _⟩ => w.ex) ?_ ?_ ?_
    · intro G' H' w' e'
      exact ⟨found_1611, (none), w', e', rfl, hx1619⟩
    · rintro G1632 e1633 i1629 x1630 v1634 σ' G1625 H1628 hx1631 e1636 ⟨s1620, u1621, w1626, e1627, rfl, hm1623⟩ r1635
      obtain ⟨q1624, hb1622, hm1623⟩ := forS_at hx1631 hm1623
      have h1637 := Rep.mono _ e1627 hself0
      have h1638 := Rep.mono _ e1627 hseveral0
      refine g_name ?_
      cases r1635
      unfold m_Order_join_all_b1 at hb1622
      obtain ⟨found_1639, hx1640, hb1622⟩ := bindS hb1622
      refine x_setI w1626 (e_meth (e_var (R := (r_Order K)) (x := self0) rfl h1637) (ea_cons (e_var (R := rI) (x := s1620) rfl rfl) (ea_cons (e_var (R := rI) (x := x1630) rfl rfl) ea_nil)) (by decide +kernel)) hx1640 ?_
      intro H1641 w1642
      refine x_next ?_
      have hb1622 : found_1639 = q1624 := Option.some.inj hb1622
      subst hb1622
      exact ⟨G1625, (e1636.trans (Evl.Ex.refl _)), found_1639, (some (V.int x1630)), w1642, e1627, rfl, hm1623⟩
    · rintro σ' G1643 H1646 e1647 ⟨s1620, u1621, w1644, e1645, rfl, hm1623⟩
      have hm1623 := forS_end hm1623
      subst hm1623
      have h1649 := Rep.mono _ e1645 hself0
      have h1650 := Rep.mono _ e1645 hseveral0
      obtain ⟨a1651, hx1652, h⟩ := bindS h
      have h : a1651 = r := Option.some.inj h
      subst h
      exact x_ret w1644 (e_var (R := rI) (x := s1620) rfl rfl) hx1652 (fun v9 H9 G9 w9 e9 r9 => k v9 H9 G9 w9.upE r9)
def m_Order_join_all_B_b1 (self0 : m_Order) (x1672 : Int) (s1662 : Int) : Option Int :=
  (m_Order_join_of self0 s1662 x1672 >>= fun found_1677 => some (found_1677))
def m_Order_join_all_B (self0 : m_Order) (several0 : (List Int)) : Option Int :=
  (m_Order_least self0 >>= fun found_1653 => ( forS (m_Order_join_all_B_b1 self0) several0 found_1653 >>= fun s1662 => (some s1662 >>= fun a1687 => some a1687)))
theorem sc_Order_join_all_B : FnScope ["self", "several", "found", "value"] ["self", "several"] (defScope s_Order_join_all) := ⟨rfl, rfl, rfl, by decide +kernel, rfl, by decide +kernel, by decide +kernel⟩
theorem ok_Order_join_all_B (T : Tx K mg) : Fm P w K mg base CX0 3 "Order" "join_all" ["self", "several"] (PB (aC (r_Order K) (aC rA aN)) (fun i => i.2.1) rI rI (fun ys i => m_Order_join_all_B i.1 ys)) := by
  obtain ⟨fd_Order_least, G_Order_least, b_Order_least⟩ := ok_Order_least (w := w) (base := base) T
  obtain ⟨fd_Order_join_of, G_Order_join_of, b_Order_join_of⟩ := ok_Order_join_of (w := w) (base := base) T
  obtain ⟨fd, F⟩ := T.def_ 13 rfl
  have nd := sc_Order_join_all_B.nd
  refine fm_mk F (fun _ _ _ _ _ _ us hl => match us, hl with | [_, _], _ => rfl) (F.ok sc_Order_join_all_B (fun vs H Q E h => ?_) (fun cdv A outer s H vs Q E hr h => ?_))
  · obtain ⟨G, ⟨self0, lb, ⟨⟩⟩, several0, r, e0, ⟨vself0, _, rfl, hself0, vseveral0, _, rfl, hseveral0, rfl⟩, L0, h, k⟩ := h
    rfl
  · obtain ⟨G, ⟨self0, lb, ⟨⟩⟩, several0, r, e0, ⟨vself0, _, rfl, hself0, vseveral0, _, rfl, hseveral0, rfl⟩, L0, h, k⟩ := h
    cases hseveral0
    have w0 := Wo.start e0
    have hl : lb ∉ ([] : List Addr) := List.not_mem_nil
    have L0 : Lent G H lb _ _ := L0
    have h : m_Order_join_all_B self0 several0 = some r := h
    unfold m_Order_join_all_B at h
    refine ⟨_, PSs.nox (pss_cons (ps_set (i := 2) nd rfl (Or.inl rfl) (pe_prop (pv 0) (T.cls 38 rfl) (T.ge 0 rfl).1 G_Order_least (hr.mono (by decide)) b_Order_least .nil pass0 rfl)) (pss_cons (ps_for PassesOwn.never rfl (show L2.PI _ _ _ (iList K _) from pi_list (pv 1)) (pg_name (i := 3) nd rfl (Or.inl rfl)) (pss_cons (ps_set (i := 2) nd rfl (Or.inl rfl) (pe_meth (pv 0) (T.cls 38 rfl) (T.meth 45 rfl) G_Order_join_of (hr.mono (by decide)) b_Order_join_of .nil pass0 (pa_cons (pv 2) (pa_cons (pv 3) pa_nil)))) pss_nil)) (pss_cons (ps_ret (pv 2)) pss_nil))), ?_⟩
    obtain ⟨found_1653, hx1654, h⟩ := bindS h
    refine x_setI w0 (e_prop (e_var (R := (r_Order K)) (x := self0) rfl hself0)) hx1654 ?_
    intro H1655 w1656
    obtain ⟨t1660, hx1661, h⟩ := bindS h
    refine x_forN w1656 L0 hl rfl (fun i G' H' σ' => ∃ s1662 : Int, ∃ u1663 : Option V, Wo G H [] G' H' [] ∧ Evl.Ex G G' ∧ σ' = [some vself0, some (V.ref lb), some (V.int s1662), u1663] ∧ forS (m_Order_join_all_B_b1 self0) (several0.drop i) s1662 = some t1660) (fun _ _ _ _ ⟨_, _, w, _⟩ => ⟨_, w⟩) ?_ ?_ ?_
    · exact ⟨found_1653, (none), w1656, (Evl.Ex.refl _), rfl, hx1661⟩
    · rintro i1671 x1672 v1674 σ' G1667 H1670 hx1673 ⟨s1662, u1663, w1668, e1669, rfl, hm1665⟩ r1675
      obtain ⟨q1666, hb1664, hm1665⟩ := forS_at hx1673 hm1665
      have h1676 := Rep.mono _ e1669 hself0
      refine g_name ?_
      cases r1675
      unfold m_Order_join_all_B_b1 at hb1664
      obtain ⟨found_1677, hx1678, hb1664⟩ := bindS hb1664
      refine x_setI w1668 (e_meth (e_var (R := (r_Order K)) (x := self0) rfl h1676) (ea_cons (e_var (R := rI) (x := s1662) rfl rfl) (ea_cons (e_var (R := rI) (x := x1672) rfl rfl) ea_nil)) (by decide +kernel)) hx1678 ?_
      intro H1679 w1680
      refine x_next ?_
      have hb1664 : found_1677 = q1666 := Option.some.inj hb1664
      subst hb1664
      exact ⟨G1667, found_1677, (some (V.int x1672)), w1680, e1669, rfl, hm1665⟩
    · rintro σ' G1681 H1684 ⟨s1662, u1663, w1682, e1683, rfl, hm1665⟩
      have hm1665 := forS_end hm1665
      subst hm1665
      have h1686 := Rep.mono _ e1683 hself0
      obtain ⟨a1687, hx1688, h⟩ := bindS h
      have h : a1687 = r := Option.some.inj h
      subst h
      exact x_ret w1682 (e_var (R := rI) (x := s1662) rfl rfl) hx1688 (fun v9 H9 G9 w9 e9 r9 => k v9 H9 G9 w9.upE r9)
def m_Order_join_all_X_b1 (self0 : m_Order) (x1708 : Int) (s1698 : Int) : Option (Stp Int (Xn ⊕ Int)) :=
  (m_Order_join_of_X self0 s1698 x1708 >>= fun r1717 => Sum.elim (fun e1719 => some (Stp.rt (Sum.inl e1719 : Xn ⊕ Int))) (fun x1729 => some (Stp.nx x1729)) r1717)
def m_Order_join_all_X (self0 : m_Order) (several0 : (List Int)) : Option (Xn ⊕ Int) :=
  (m_Order_least self0 >>= fun found_1689 => (some several0 >>= fun xs1693 => forL (m_Order_join_all_X_b1 self0) xs1693 found_1689 >>= Sum.elim (fun s1698 => (some s1698 >>= fun a1747 => some (Sum.inr a1747 : Xn ⊕ Int))) (fun r => some r)))
theorem sc_Order_join_all_X : FnScope ["self", "several", "found", "value"] ["self", "several"] (defScope s_Order_join_all) := ⟨rfl, rfl, rfl, by decide +kernel, rfl, by decide +kernel, by decide +kernel⟩
theorem ok_Order_join_all_X (T : Tx K mg) : Fm P w K mg base (L2.CX P w) 5 "Order" "join_all" ["self", "several"] (PX K (aC (r_Order K) (aC (rL rI) aN)) rI (fun i => m_Order_join_all_X i.1 i.2.1)) := by
  obtain ⟨fd_Order_least, G_Order_least, b_Order_least⟩ := ok_Order_least (w := w) (base := base) T
  obtain ⟨fd_Order_join_of_X, G_Order_join_of_X, b_Order_join_of_X⟩ := ok_Order_join_of_X (w := w) (base := base) T
  obtain ⟨fd, F⟩ := T.def_ 13 rfl
  have nd := sc_Order_join_all_X.nd
  refine fm_mk F (fun _ _ _ _ _ _ us hl => match us, hl with | [_, _], _ => rfl) (F.ok sc_Order_join_all_X (fun vs H Q E h => ?_) (fun cdv A outer s H vs Q E hr h => ?_))
  · obtain ⟨G, ⟨self0, several0, ⟨⟩⟩, r, e0, ⟨vself0, _, rfl, hself0, vseveral0, _, rfl, hseveral0, rfl⟩, h, kx, k⟩ := h
    rfl
  · obtain ⟨G, ⟨self0, several0, ⟨⟩⟩, r, e0, ⟨vself0, _, rfl, hself0, vseveral0, _, rfl, hseveral0, rfl⟩, h, kx, k⟩ := h
    have w0 := Wo.start e0
    have h : m_Order_join_all_X self0 several0 = some r := h
    unfold m_Order_join_all_X at h
    have tk := takes_of (X := cxOf (L2.CX P w) P w K mg base ["self", "several", "found", "value"] "Order.join_all" (defScope s_Order_join_all) (He.fAd K ("Order", some "join_all")) cdv A outer s H E) rfl rfl rfl (E := E) rfl
    refine ⟨_, (pss_cons (ps_set (i := 2) nd rfl (Or.inl rfl) (pe_prop (pv 0) (T.cls 38 rfl) (T.ge 0 rfl).1 G_Order_least (hr.mono (by decide)) b_Order_least .nil pass0 rfl)) (pss_cons (ps_for (passes_of rfl) rfl (pi_list (pv 1)) (pg_name (i := 3) nd rfl (Or.inl rfl)) (pss_cons (ps_set (i := 2) nd rfl (Or.inl rfl) (pe_methT (pv 0) (T.cls 38 rfl) (T.meth 45 rfl) G_Order_join_of_X (hr.mono (by decide)) b_Order_join_of_X (passAt tk) (pa_cons (pv 2) (pa_cons (pv 3) pa_nil)))) pss_nil)) (pss_cons (ps_ret (pv 2)) pss_nil))), ?_⟩
    obtain ⟨found_1689, hx1690, h⟩ := bindS h
    refine x_setI w0 (e_prop (e_var (R := (r_Order K)) (x := self0) rfl hself0)) hx1690 ?_
    intro H1691 w1692
    obtain ⟨xs1693, hx1694, h⟩ := bindS h
    obtain ⟨t1696, hx1697, h⟩ := bindS h
    refine x_forL w1692 (e_var (R := (rL rI)) (x := several0) rfl hseveral0) hx1694 (fun i G' H' σ' => ∃ s1698 : Int, ∃ u1699 : Option V, Wo G H [] G' H' [] ∧ Evl.Ex G G' ∧ σ' = [some vself0, some vseveral0, some (V.int s1698), u1699] ∧ forL (m_Order_join_all_X_b1 self0) (xs1693.drop i) s1698 = some t1696) (fun _ _ _ _ ⟨_, _, w, _⟩ => w.ex) ?_ ?_ ?_
    · intro G' H' w' e'
      exact ⟨found_1689, (none), w', e', rfl, hx1697⟩
    · rintro G1710 e1711 i1707 x1708 v1712 σ' G1703 H1706 hx1709 e1714 ⟨s1698, u1699, w1704, e1705, rfl, hm1701⟩ r1713
      obtain ⟨q1702, hb1700, hm1701⟩ := forL_at hx1709 hm1701
      have h1715 := Rep.mono _ e1705 hself0
      have h1716 := Rep.mono _ e1705 hseveral0
      refine g_name ?_
      cases r1713
      unfold m_Order_join_all_X_b1 at hb1700
      obtain ⟨r1717, hx1718, hb1700⟩ := bindS hb1700
      refine x_setX w1704 (ex_meth (e_var (R := (r_Order K)) (x := self0) rfl h1715) (ea_cons (e_var (R := rI) (x := s1698) rfl rfl) (ea_cons (e_var (R := rI) (x := x1708) rfl rfl) ea_nil)) (by decide +kernel)) (by first | exact hx1718 | (simp only [Option.bind_eq_bind, Option.bind_some, Option.bind_assoc] at hx1718 ⊢; exact hx1718)) ?_ ?_
      · intro e1719 he1720 d1721 H1722 G1723 w1724 e1725 xa1726
        subst he1720
        have hb1700 := sumL hb1700
        have h1727 := Rep.mono _ e1725 h1715
        have h1728 := Rep.mono _ e1725 h1716
        have hb1700 : some (Stp.rt (Sum.inl e1719 : Xn ⊕ Int)) = some q1702 := hb1700
        cases hb1700
        have hm1701 : some (Sum.inr (Sum.inl e1719 : Xn ⊕ Int)) = some t1696 := hm1701
        cases hm1701
        have h : (Sum.inl e1719 : Xn ⊕ Int) = r := Option.some.inj h
        subst h
        exact kx _ rfl d1721 H1722 G1723 w1724.upE xa1726
      · intro x1729 he1730 v1735 H1731 G1732 w1733 e1734 h1736
        subst he1730
        have hb1700 := sumR hb1700
        have h1737 := Rep.mono _ e1734 h1715
        have h1738 := Rep.mono _ e1734 h1716
        cases h1736
        refine x_next ?_
        have hb1700 : Stp.nx x1729 = q1702 := Option.some.inj hb1700
        subst hb1700
        exact ⟨G1732, (e1714.trans e1734), x1729, (some (V.int x1708)), w1733, (e1705.trans e1734), rfl, hm1701⟩
    · rintro σ' G1739 H1742 e1743 ⟨s1698, u1699, w1740, e1741, rfl, hm1701⟩
      have hm1701 := forL_end hm1701
      subst hm1701
      have h1745 := Rep.mono _ e1741 hself0
      have h1746 := Rep.mono _ e1741 hseveral0
      obtain ⟨a1747, hx1748, h⟩ := bindS h
      have h : (Sum.inr a1747 : Xn ⊕ Int) = r := Option.some.inj h
      subst h
      exact x_ret w1740 (e_var (R := rI) (x := s1698) rfl rfl) hx1748 (fun v9 H9 G9 w9 e9 r9 => k _ rfl v9 H9 G9 w9.upE r9)
def m_Order_meet_all_b1 (self0 : m_Order) (x1768 : Int) (s1758 : Int) : Option Int :=
  (m_Order_meet_of self0 s1758 x1768 >>= fun found_1777 => some (found_1777))
def m_Order_meet_all (self0 : m_Order) (several0 : (List Int)) : Option Int :=
  (m_Order_greatest self0 >>= fun found_1749 => (some several0 >>= fun xs1753 => forS (m_Order_meet_all_b1 self0) xs1753 found_1749 >>= fun s1758 => (some s1758 >>= fun a1789 => some a1789)))
theorem sc_Order_meet_all : FnScope ["self", "several", "found", "value"] ["self", "several"] (defScope s_Order_meet_all) := ⟨rfl, rfl, rfl, by decide +kernel, rfl, by decide +kernel, by decide +kernel⟩
theorem ok_Order_meet_all (T : Tx K mg) : Fm P w K mg base CX0 3 "Order" "meet_all" ["self", "several"] (PF (aC (r_Order K) (aC (rL rI) aN)) rI (fun i => m_Order_meet_all i.1 i.2.1)) := by
  obtain ⟨fd_Order_greatest, G_Order_greatest, b_Order_greatest⟩ := ok_Order_greatest (w := w) (base := base) T
  obtain ⟨fd_Order_meet_of, G_Order_meet_of, b_Order_meet_of⟩ := ok_Order_meet_of (w := w) (base := base) T
  obtain ⟨fd, F⟩ := T.def_ 14 rfl
  have nd := sc_Order_meet_all.nd
  refine fm_mk F (fun _ _ _ _ _ _ us hl => match us, hl with | [_, _], _ => rfl) (F.ok sc_Order_meet_all (fun vs H Q E h => ?_) (fun cdv A outer s H vs Q E hr h => ?_))
  · obtain ⟨G, ⟨self0, several0, ⟨⟩⟩, r, e0, ⟨vself0, _, rfl, hself0, vseveral0, _, rfl, hseveral0, rfl⟩, h, k⟩ := h
    rfl
  · obtain ⟨G, ⟨self0, several0, ⟨⟩⟩, r, e0, ⟨vself0, _, rfl, hself0, vseveral0, _, rfl, hseveral0, rfl⟩, h, k⟩ := h
    have w0 := Wo.start e0
    have h : m_Order_meet_all self0 several0 = some r := h
    unfold m_Order_meet_all at h
    refine ⟨_, PSs.nox (pss_cons (ps_set (i := 2) nd rfl (Or.inl rfl) (pe_prop (pv 0) (T.cls 38 rfl) (T.ge 1 rfl).1 G_Order_greatest (hr.mono (by decide)) b_Order_greatest .nil pass0 rfl)) (pss_cons (ps_for PassesOwn.never rfl (pi_list (pv 1)) (pg_name (i := 3) nd rfl (Or.inl rfl)) (pss_cons (ps_set (i := 2) nd rfl (Or.inl rfl) (pe_meth (pv 0) (T.cls 38 rfl) (T.meth 46 rfl) G_Order_meet_of (hr.mono (by decide)) b_Order_meet_of .nil pass0 (pa_cons (pv 2) (pa_cons (pv 3) pa_nil)))) pss_nil)) (pss_cons (ps_ret (pv 2)) pss_nil))), ?_⟩
    obtain ⟨found_1749, hx1750, h⟩ := bindS h
    refine x_setI w0 (e_prop (e_var (R := (r_Order K)) (x := self0) rfl hself0)) hx1750 ?_
    intro H1751 w1752
    obtain ⟨xs1753, hx1754, h⟩ := bindS h
    obtain ⟨t1756, hx1757, h⟩ := bindS h
    refine x_forL w1752 (e_var (R := (rL rI)) (x := several0) rfl hseveral0) hx1754 (fun i G' H' σ' => ∃ s1758 : Int, ∃ u1759 : Option V, Wo G H [] G' H' [] ∧ Evl.Ex G G' ∧ σ' = [some vself0, some vseveral0, some (V.int s1758), u1759] ∧ forS (m_Order_meet_all_b1 self0) (xs1753.drop i) s1758 = some t1756) (fun _ _ _ _ ⟨_, _, w, _⟩ => w.ex) ?_ ?_ ?_
    · intro G' H' w' e'
      exact ⟨found_1749, (none), w', e', rfl, hx1757⟩
    · rintro G1770 e1771 i1767 x1768 v1772 σ' G1763 H1766 hx1769 e1774 ⟨s1758, u1759, w1764, e1765, rfl, hm1761⟩ r1773
      obtain ⟨q1762, hb1760, hm1761⟩ := forS_at hx1769 hm1761
      have h1775 := Rep.mono _ e1765 hself0
      have h1776 := Rep.mono _ e1765 hseveral0
      refine g_name ?_
      cases r1773
      unfold m_Order_meet_all_b1 at hb1760
      obtain ⟨found_1777, hx1778, hb1760⟩ := bindS hb1760
      refine x_setI w1764 (e_meth (e_var (R := (r_Order K)) (x := self0) rfl h1775) (ea_cons (e_var (R := rI) (x := s1758) rfl rfl) (ea_cons (e_var (R := rI) (x := x1768) rfl rfl) ea_nil)) (by decide +kernel)) hx1778 ?_
      intro H1779 w1780
      refine x_next ?_
      have hb1760 : found_1777 = q1762 := Option.some.inj hb1760
      subst hb1760
      exact ⟨G1763, (e1774.trans (Evl.Ex.refl _)), found_1777, (some (V.int x1768)), w1780, e1765, rfl, hm1761⟩
    · rintro σ' G1781 H1784 e1785 ⟨s1758, u1759, w1782, e1783, rfl, hm1761⟩
      have hm1761 := forS_end hm1761
      subst hm1761
      have h1787 := Rep.mono _ e1783 hself0
      have h1788 := Rep.mono _ e1783 hseveral0
      obtain ⟨a1789, hx1790, h⟩ := bindS h
      have h : a1789 = r := Option.some.inj h
      subst h
      exact x_ret w1782 (e_var (R := rI) (x := s1758) rfl rfl) hx1790 (fun v9 H9 G9 w9 e9 r9 => k v9 H9 G9 w9.upE r9)
def m_Order_meet_all_B_b1 (self0 : m_Order) (x1810 : Int) (s1800 : Int) : Option Int :=
  (m_Order_meet_of self0 s1800 x1810 >>= fun found_1815 => some (found_1815))
def m_Order_meet_all_B (self0 : m_Order) (several0 : (List Int)) : Option Int :=
  (m_Order_greatest self0 >>= fun found_1791 => ( forS (m_Order_meet_all_B_b1 self0) several0 found_1791 >>= fun s1800 => (some s1800 >>= fun a1825 => some a1825)))
theorem sc_Order_meet_all_B : FnScope ["self", "several", "found", "value"] ["self", "several"] (defScope s_Order_meet_all) := ⟨rfl, rfl, rfl, by decide +kernel, rfl, by decide +kernel, by decide +kernel⟩
theorem ok_Order_meet_all_B (T : Tx K mg) : Fm P w K mg base CX0 3 "Order" "meet_all" ["self", "several"] (PB (aC (r_Order K) (aC rA aN)) (fun i => i.2.1) rI rI (fun ys i => m_Order_meet_all_B i.1 ys)) := by
  obtain ⟨fd_Order_greatest, G_Order_greatest, b_Order_greatest⟩ := ok_Order_greatest (w := w) (base := base) T
  obtain ⟨fd_Order_meet_of, G_Order_meet_of, b_Order_meet_of⟩ := ok_Order_meet_of (w := w) (base := base) T
  obtain ⟨fd, F⟩ := T.def_ 14 rfl
  have nd := sc_Order_meet_all_B.nd
  refine fm_mk F (fun _ _ _ _ _ _ us hl => match us, hl with | [_, _], _ => rfl) (F.ok sc_Order_meet_all_B (fun vs H Q E h => ?_) (fun cdv A outer s H vs Q E hr h => ?_))
  · obtain ⟨G, ⟨self0, lb, ⟨⟩⟩, several0, r, e0, ⟨vself0, _, rfl, hself0, vseveral0, _, rfl, hseveral0, rfl⟩, L0, h, k⟩ := h
    rfl
  · obtain ⟨G, ⟨self0, lb, ⟨⟩⟩, several0, r, e0, ⟨vself0, _, rfl, hself0, vseveral0, _, rfl, hseveral0, rfl⟩, L0, h, k⟩ := h
    cases hseveral0
    have w0 := Wo.start e0
    have hl : lb ∉ ([] : List Addr) := List.not_mem_nil
    have L0 : Lent G H lb _ _ := L0
    have h : m_Order_meet_all_B self0 several0 = some r := h
    unfold m_Order_meet_all_B at h
    refine ⟨_, PSs.nox (pss_cons (ps_set (i := 2) nd rfl (Or.inl rfl) (pe_prop (pv 0) (T.cls 38 rfl) (T.ge 1 rfl).1 G_Order_greatest (hr.mono (by decide)) b_Order_greatest .nil pass0 rfl)) (pss_cons (ps_for PassesOwn.never rfl (show L2.PI _ _ _ (iList K _) from pi_list (pv 1)) (pg_name (i := 3) nd rfl (Or.inl rfl)) (pss_cons (ps_set (i := 2) nd rfl (Or.inl rfl) (pe_meth (pv 0) (T.cls 38 rfl) (T.meth 46 rfl) G_Order_meet_of (hr.mono (by decide)) b_Order_meet_of .nil pass0 (pa_cons (pv 2) (pa_cons (pv 3) pa_nil)))) pss_nil)) (pss_cons (ps_ret (pv 2)) pss_nil))), ?_⟩
    obtain ⟨found_1791, hx1792, h⟩ := bindS h
    refine x_setI w0 (e_prop (e_var (R := (r_Order K)) (x := self0) rfl hself0)) hx1792 ?_
    intro H1793 w1794
    obtain ⟨t1798, hx1799, h⟩ := bindS h
    refine x_forN w1794 L0 hl rfl (fun i G' H' σ' => ∃ s1800 : Int, ∃ u1801 : Option V, Wo G H [] G' H' [] ∧ Evl.Ex G G' ∧ σ' = [some vself0, some (V.ref lb), some (V.int s1800), u1801] ∧ forS (m_Order_meet_all_B_b1 self0) (several0.drop i) s1800 = some t1798) (fun _ _ _ _ ⟨_, _, w, _⟩ => ⟨_, w⟩) ?_ ?_ ?_
    · exact ⟨found_1791, (none), w1794, (Evl.Ex.refl _), rfl, hx1799⟩
    · rintro i1809 x1810 v1812 σ' G1805 H1808 hx1811 ⟨s1800, u1801, w1806, e1807, rfl, hm1803⟩ r1813
      obtain ⟨q1804, hb1802, hm1803⟩ := forS_at hx1811 hm1803
      have h1814 := Rep.mono _ e1807 hself0
      refine g_name ?_
      cases r1813
      unfold m_Order_meet_all_B_b1 at hb1802
      obtain ⟨found_1815, hx1816, hb1802⟩ := bindS hb1802
      refine x_setI w1806 (e_meth (e_var (R := (r_Order K)) (x := self0) rfl h1814) (ea_cons (e_var (R := rI) (x := s1800) rfl rfl) (ea_cons (e_var (R := rI) (x := x1810) rfl rfl) ea_nil)) (by decide +kernel)) hx1816 ?_
      intro H1817 w1818
      refine x_next ?_
      have hb1802 : found_1815 = q1804 := Option.some.inj hb1802
      subst hb1802
      exact ⟨G1805, found_1815, (some (V.int x1810)), w1818, e1807, rfl, hm1803⟩
    · rintro σ' G1819 H1822 ⟨s1800, u1801, w1820, e1821, rfl, hm1803⟩
      have hm1803 := forS_end hm1803
      subst hm1803
      have h1824 := Rep.mono _ e1821 hself0
      obtain ⟨a1825, hx1826, h⟩ := bindS h
      have h : a1825 = r := Option.some.inj h
      subst h
      exact x_ret w1820 (e_var (R := rI) (x := s1800) rfl rfl) hx1826 (fun v9 H9 G9 w9 e9 r9 => k v9 H9 G9 w9.upE r9)
def m_Order_meet_all_X_b1 (self0 : m_Order) (x1846 : Int) (s1836 : Int) : Option (Stp Int (Xn ⊕ Int)) :=
  (m_Order_meet_of_X self0 s1836 x1846 >>= fun r1855 => Sum.elim (fun e1857 => some (Stp.rt (Sum.inl e1857 : Xn ⊕ Int))) (fun x1867 => some (Stp.nx x1867)) r1855)
def m_Order_meet_all_X (self0 : m_Order) (several0 : (List Int)) : Option (Xn ⊕ Int) :=
  (m_Order_greatest self0 >>= fun found_1827 => (some several0 >>= fun xs1831 => forL (m_Order_meet_all_X_b1 self0) xs1831 found_1827 >>= Sum.elim (fun s1836 => (some s1836 >>= fun a1885 => some (Sum.inr a1885 : Xn ⊕ Int))) (fun r => some r)))
theorem sc_Order_meet_all_X : FnScope ["self", "several", "found", "value"] ["self", "several"] (defScope s_Order_meet_all) := ⟨rfl, rfl, rfl, by decide +kernel, rfl, by decide +kernel, by decide +kernel⟩
theorem ok_Order_meet_all_X (T : Tx K mg) : Fm P w K mg base (L2.CX P w) 5 "Order" "meet_all" ["self", "several"] (PX K (aC (r_Order K) (aC (rL rI) aN)) rI (fun i => m_Order_meet_all_X i.1 i.2.1)) := by
  obtain ⟨fd_Order_greatest, G_Order_greatest, b_Order_greatest⟩ := ok_Order_greatest (w := w) (base := base) T
  obtain ⟨fd_Order_meet_of_X, G_Order_meet_of_X, b_Order_meet_of_X⟩ := ok_Order_meet_of_X (w := w) (base := base) T
  obtain ⟨fd, F⟩ := T.def_ 14 rfl
  have nd := sc_Order_meet_all_X.nd
  refine fm_mk F (fun _ _ _ _ _ _ us hl => match us, hl with | [_, _], _ => rfl) (F.ok sc_Order_meet_all_X (fun vs H Q E h => ?_) (fun cdv A outer s H vs Q E hr h => ?_))
  · obtain ⟨G, ⟨self0, several0, ⟨⟩⟩, r, e0, ⟨vself0, _, rfl, hself0, vseveral0, _, rfl, hseveral0, rfl⟩, h, kx, k⟩ := h
    rfl
  · obtain ⟨G, ⟨self0, several0, ⟨⟩⟩, r, e0, ⟨vself0, _, rfl, hself0, vseveral0, _, rfl, hseveral0, rfl⟩, h, kx, k⟩ := h
    have w0 := Wo.start e0
    have h : m_Order_meet_all_X self0 several0 = some r := h
    unfold m_Order_meet_all_X at h
    have tk := takes_of (X := cxOf (L2.CX P w) P w K mg base ["self", "several", "found", "value"] "Order.meet_all" (defScope s_Order_meet_all) (He.fAd K ("Order", some "meet_all")) cdv A outer s H E) rfl rfl rfl (E := E) rfl
    refine ⟨_, (pss_cons (ps_set (i := 2) nd rfl (Or.inl rfl) (pe_prop (pv 0) (T.cls 38 rfl) (T.ge 1 rfl).1 G_Order_greatest (hr.mono (by decide)) b_Order_greatest .nil pass0 rfl)) (pss_cons (ps_for (passes_of rfl) rfl (pi_list (pv 1)) (pg_name (i := 3) nd rfl (Or.inl rfl)) (pss_cons (ps_set (i := 2) nd rfl (Or.inl rfl) (pe_methT (pv 0) (T.cls 38 rfl) (T.meth 46 rfl) G_Order_meet_of_X (hr.mono (by decide)) b_Order_meet_of_X (passAt tk) (pa_cons (pv 2) (pa_cons (pv 3) pa_nil)))) pss_nil)) (pss_cons (ps_ret (pv 2)) pss_nil))), ?_⟩
    obtain ⟨found_1827, hx1828, h⟩ := bindS h
    refine x_setI w0 (e_prop (e_var (R := (r_Order K)) (x := self0) rfl hself0)) hx1828 ?_
    intro H1829 w1830
    obtain ⟨xs1831, hx1832, h⟩ := bindS h
    obtain ⟨t1834, hx1835, h⟩ := bindS h
    refine x_forL w1830 (e_var (R := (rL rI)) (x := several0) rfl hseveral0) hx1832 (fun i G' H' σ' => ∃ s1836 : Int, ∃ u1837 : Option V, Wo G H [] G' H' [] ∧ Evl.Ex G G' ∧ σ' = [some vself0, some vseveral0, some (V.int s1836), u1837] ∧ forL (m_Order_meet_all_X_b1 self0) (xs1831.drop i) s1836 = some t1834) (fun _ _ _ _ ⟨_, _, w, _⟩ => w.ex) ?_ ?_ ?_
    · intro G' H' w' e'
      exact ⟨found_1827, (none), w', e', rfl, hx1835⟩
    · rintro G1848 e1849 i1845 x1846 v1850 σ' G1841 H1844 hx1847 e1852 ⟨s1836, u1837, w1842, e1843, rfl, hm1839⟩ r1851
      obtain ⟨q1840, hb1838, hm1839⟩ := forL_at hx1847 hm1839
      have h1853 := Rep.mono _ e1843 hself0
      have h1854 := Rep.mono _ e1843 hseveral0
      refine g_name ?_
      cases r1851
      unfold m_Order_meet_all_X_b1 at hb1838
      obtain ⟨r1855, hx1856, hb1838⟩ := bindS hb1838
      refine x_setX w1842 (ex_meth (e_var (R := (r_Order K)) (x := self0) rfl h1853) (ea_cons (e_var (R := rI) (x := s1836) rfl rfl) (ea_cons (e_var (R := rI) (x := x1846) rfl rfl) ea_nil)) (by decide +kernel)) (by first | exact hx1856 | (simp only [Option.bind_eq_bind, Option.bind_some, Option.bind_assoc] at hx1856 ⊢; exact hx1856)) ?_ ?_
      · intro e1857 he1858 d1859 H1860 G1861 w1862 e1863 xa1864
        subst he1858
        have hb1838 := sumL hb1838
        have h1865 := Rep.mono _ e1863 h1853
        have h1866 := Rep.mono _ e1863 h1854
        have hb1838 : some (Stp.rt (Sum.inl e1857 : Xn ⊕ Int)) = some q1840 := hb1838
        cases hb1838
        have hm1839 : some (Sum.inr (Sum.inl e1857 : Xn ⊕ Int)) = some t1834 := hm1839
        cases hm1839
        have h : (Sum.inl e1857 : Xn ⊕ Int) = r := Option.some.inj h
        subst h
        exact kx _ rfl d1859 H1860 G1861 w1862.upE xa1864
      · intro x1867 he1868 v1873 H1869 G1870 w1871 e1872 h1874
        subst he1868
        have hb1838 := sumR hb1838
        have h1875 := Rep.mono _ e1872 h1853
        have h1876 := Rep.mono _ e1872 h1854
        cases h1874
        refine x_next ?_
        have hb1838 : Stp.nx x1867 = q1840 := Option.some.inj hb1838
        subst hb1838
        exact ⟨G1870, (e1852.trans e1872), x1867, (some (V.int x1846)), w1871, (e1843.trans e1872), rfl, hm1839⟩
    · rintro σ' G1877 H1880 e1881 ⟨s1836, u1837, w1878, e1879, rfl, hm1839⟩
      have hm1839 := forL_end hm1839
      subst hm1839
      have h1883 := Rep.mono _ e1879 hself0
      have h1884 := Rep.mono _ e1879 hseveral0
      obtain ⟨a1885, hx1886, h⟩ := bindS h
      have h : (Sum.inr a1885 : Xn ⊕ Int) = r := Option.some.inj h
      subst h
      exact x_ret w1878 (e_var (R := rI) (x := s1836) rfl rfl) hx1886 (fun v9 H9 G9 w9 e9 r9 => k _ rfl v9 H9 G9 w9.upE r9)
def m__law_int (value0 : Int) : Option Bool :=
  (some (true && (!false)) >>= fun a1887 => some a1887)
theorem sc__law_int : FnScope ["_law_value"] ["_law_value"] (defScope s__law_int) := ⟨rfl, rfl, rfl, by decide +kernel, rfl, by decide +kernel, by decide +kernel⟩
theorem ok__law_int (T : Tx K mg) : Fk P w K mg base CX0 1 "_law_int" ["_law_value"] (PF (aC rI aN) rB (fun i => m__law_int i.1)) := by
  obtain ⟨fd, F⟩ := T.def_ 17 rfl
  have nd := sc__law_int.nd
  refine fk_mk T.toTx (x := "_law_int") (T.glo 18 rfl) F (fun _ _ _ _ _ _ us hl => match us, hl with | [_], _ => rfl) (F.ok sc__law_int (fun vs H Q E h => ?_) (fun cdv A outer s H vs Q E hr h => ?_))
  · obtain ⟨G, ⟨value0, ⟨⟩⟩, r, e0, ⟨vvalue0, _, rfl, hvalue0, rfl⟩, h, k⟩ := h
    rfl
  · obtain ⟨G, ⟨value0, ⟨⟩⟩, r, e0, ⟨vvalue0, _, rfl, hvalue0, rfl⟩, h, k⟩ := h
    cases hvalue0
    have w0 := Wo.start e0
    have h : m__law_int value0 = some r := h
    unfold m__law_int at h
    refine ⟨_, PSs.nox (pss_cons (ps_ret (pe_and (pe_callB (r := rIsi K) call_isi (by rfl) (fr_isinstance T) (by decide +kernel) (pa_cons (pv 0) (pa_cons (pe_bltn (v := .ty "int") (by rfl) (fr_int T) (by decide +kernel) rfl) pa_nil))) (pe_one (pe_not (pe_callB (r := rIsi K) call_isi (by rfl) (fr_isinstance T) (by decide +kernel) (pa_cons (pv 0) (pa_cons (pe_bltn (v := .ty "bool") (by rfl) (fr_bool T) (by decide +kernel) rfl) pa_nil))))))) pss_nil), ?_⟩
    obtain ⟨a1887, hx1888, h⟩ := bindS h
    have h : a1887 = r := Option.some.inj h
    subst h
    exact x_ret w0 (e_andP (e_isi (e_var (R := rI) (x := value0) rfl rfl) ktI (n := "int") (c := "int") (b := true) (by decide +kernel)) (e_notV (e_isi (e_var (R := rI) (x := value0) rfl rfl) ktI (n := "int") (c := "bool") (b := false) (by decide +kernel)))) hx1888 (fun v9 H9 G9 w9 e9 r9 => k v9 H9 G9 w9.upE r9)
def m__law_joins_list_b1 (masks_here0 : (List Int)) (several0 : (List Int)) (told0 : Int) (x1935 : Int) (s1924 : Unit) : Option (Stp Unit Bool) :=
  ((andO ((mapS (fun x1942 => m__law_under masks_here0 x1942 x1935) several0 >>= fun t1948 => some (t1948.all id))) ((m__law_under masks_here0 told0 x1935 >>= fun t1949 => some (!t1949)))) >>= fun b1950 => bif b1950 then (some false >>= fun a1954 => some (Stp.rt a1954)) else some (Stp.nx ()))
def m__law_joins_list (masks_here0 : (List Int)) (several0 : (List Int)) (told0 : Int) : Option Bool :=
  ((orO ((m__law_int told0 >>= fun t1889 => some (!t1889))) (some ((decide (told0 < (0 : Int))) || (decide ((masks_here0.length : Int) ≤ told0))))) >>= fun b1890 => bif b1890 then (some false >>= fun a1894 => some a1894) else (((mapS (fun x1901 => m__law_under masks_here0 x1901 told0) several0 >>= fun t1907 => some (t1907.all id)) >>= fun t1908 => some (!t1908)) >>= fun b1909 => bif b1909 then (some false >>= fun a1913 => some a1913) else (some (masks_here0.length : Int) >>= fun n1917 => rngM 0 n1917 >>= fun xs1919 => forL (m__law_joins_list_b1 masks_here0 several0 told0) xs1919 () >>= Sum.elim (fun s1924 => (some true >>= fun a1965 => some a1965)) (fun r => some r))))
theorem sc__law_joins_list : FnScope ["_law_masks_here", "_law_several", "_law_told", "_law_other", "_law_value"] ["_law_masks_here", "_law_several", "_law_told"] (defScope s__law_joins_list) := ⟨rfl, rfl, rfl, by decide +kernel, rfl, by decide +kernel, by decide +kernel⟩
theorem ok__law_joins_list (T : Tx K mg) : Fk P w K mg base CX0 2 "_law_joins_list" ["_law_masks_here", "_law_several", "_law_told"] (PF (aC (rL rI) (aC (rL rI) (aC rI aN))) rB (fun i => m__law_joins_list i.1 i.2.1 i.2.2.1)) := by
  obtain ⟨fd__law_int, G__law_int, b__law_int, k__law_int, g__law_int⟩ := ok__law_int (w := w) (base := base) T
  obtain ⟨fd__law_under, G__law_under, b__law_under, k__law_under, g__law_under⟩ := ok__law_under (w := w) (base := base) T
  obtain ⟨fd, F⟩ := T.def_ 21 rfl
  have nd := sc__law_joins_list.nd
  refine fk_mk T.toTx (x := "_law_joins_list") (T.glo 22 rfl) F (fun _ _ _ _ _ _ us hl => match us, hl with | [_, _, _], _ => rfl) (F.ok sc__law_joins_list (fun vs H Q E h => ?_) (fun cdv A outer s H vs Q E hr h => ?_))
  · obtain ⟨G, ⟨masks_here0, several0, told0, ⟨⟩⟩, r, e0, ⟨vmasks_here0, _, rfl, hmasks_here0, vseveral0, _, rfl, hseveral0, vtold0, _, rfl, htold0, rfl⟩, h, k⟩ := h
    rfl
  · obtain ⟨G, ⟨masks_here0, several0, told0, ⟨⟩⟩, r, e0, ⟨vmasks_here0, _, rfl, hmasks_here0, vseveral0, _, rfl, hseveral0, vtold0, _, rfl, htold0, rfl⟩, h, k⟩ := h
    cases htold0
    have w0 := Wo.start e0
    have h : m__law_joins_list masks_here0 several0 told0 = some r := h
    unfold m__law_joins_list at h
    refine ⟨_, PSs.nox (pss_cons (ps_if (PW.pt (pw_or (pt_not (pt_val (pe_call G__law_int (hr.mono (by decide)) rfl g__law_int k__law_int b__law_int .nil pass0 (pa_cons (pv 2) pa_nil)))) (pw_or (pt_cmpR op_lt (pv 2) pe_int (nomark _)) (pw_or1 (pt_cmpR op_ge (pv 2) (pe_callB (r := rLn K) call_len_seq (by rfl) (fr_len T) (by decide +kernel) (pa_cons (pv 0) pa_nil)) (nomark _)))))) (pss_cons (ps_ret pe_bl) pss_nil) pss_nil) (pss_cons (ps_if (pt_not (pt_val (pe_callB (r := rAll K) (cr_all rfl) (by rfl) (fr_all T) (by decide +kernel) (pa_cons (pe_lc (own := [("_law_value", 4)]) (by rfl) nd (show L2.PI _ _ _ (iList K _) from pi_list (pv 1)) (blkOk_by (by kernel_rfl)) (fun _ _ _ _ _ => pg_name (i := 4) nd rfl (by first | exact Or.inl rfl | exact Or.inr rfl)) (fun _ _ _ _ _ => pts_nil) (fun _ _ _ _ _ => (pe_call G__law_under (hr.mono (by decide)) rfl g__law_under k__law_under b__law_under .nil pass0 (pa_cons (pv 0) (pa_cons (pv 4) (pa_cons (pv 2) pa_nil)))))) pa_nil)))) (pss_cons (ps_ret pe_bl) pss_nil) pss_nil) (pss_cons (ps_for PassesOwn.never rfl (pi_range1 (by rfl) (fr_range T) (pa_cons (pe_callB (r := rLn K) call_len_seq (by rfl) (fr_len T) (by decide +kernel) (pa_cons (pv 0) pa_nil)) pa_nil)) (pg_name (i := 3) nd rfl (Or.inr rfl)) (pss_cons (ps_if (PW.pt (pw_and (pt_val (pe_callB (r := rAll K) (cr_all rfl) (by rfl) (fr_all T) (by decide +kernel) (pa_cons (pe_lc (own := [("_law_value", 4)]) (by rfl) nd (show L2.PI _ _ _ (iList K _) from pi_list (pv 1)) (blkOk_by (by kernel_rfl)) (fun _ _ _ _ _ => pg_name (i := 4) nd rfl (by first | exact Or.inl rfl | exact Or.inr rfl)) (fun _ _ _ _ _ => pts_nil) (fun _ _ _ _ _ => (pe_call G__law_under (hr.mono (by decide)) rfl g__law_under k__law_under b__law_under .nil pass0 (pa_cons (pv 0) (pa_cons (pv 4) (pa_cons (pv 3) pa_nil)))))) pa_nil))) (pw_and1 (pt_not (pt_val (pe_call G__law_under (hr.mono (by decide)) rfl g__law_under k__law_under b__law_under .nil pass0 (pa_cons (pv 0) (pa_cons (pv 2) (pa_cons (pv 3) pa_nil))))))))) (pss_cons (ps_ret pe_bl) pss_nil) pss_nil) pss_nil)) (pss_cons (ps_ret pe_bl) pss_nil)))), ?_⟩
    obtain ⟨b1890, hx1891, h⟩ := bindS h
    refine x_if w0 (et_or (et_not (et_B (e_call (ea_cons (e_var (R := rI) (x := told0) rfl rfl) ea_nil)))) (et_orP (et_T (e_op rr_lt (e_var (R := rI) (x := told0) rfl rfl) e_int)) (et_T (e_op rr_ge (e_var (R := rI) (x := told0) rfl rfl) (e_cb rc_lenL (ea_cons (e_var (R := (rL rI)) (x := masks_here0) rfl (Rep.mono _ w0.ex hmasks_here0)) ea_nil)))))) hx1891 ?_ ?_
    · intro hbb1890 H1892 w1893
      subst hbb1890
      obtain ⟨a1894, hx1895, h⟩ := bindS h
      have h : a1894 = r := Option.some.inj h
      subst h
      exact x_ret w1893 e_bl hx1895 (fun v9 H9 G9 w9 e9 r9 => k v9 H9 G9 w9.upE r9)
    · intro hbb1890 H1896 w1897
      subst hbb1890
      refine x_next ?_
      obtain ⟨b1909, hx1910, h⟩ := bindS h
      refine x_if w1897 (et_not (et_B (e_cb rc_all (ea_cons (EL.e (el_map (el_lcL (j := 4) (e_var (R := (rL rI)) (x := several0) rfl (Rep.mono _ w1897.ex hseveral0)) (fun _ => rfl) (fun _ _ _ _ _ _ _ _ => et_yes) (fun x1901 v1904 G1902 W1903 eG1898 eW1899 eX1900 h1905 => (e_call (ea_cons (e_var (R := (rL rI)) (x := masks_here0) rfl (Rep.mono _ eG1898 (Rep.mono _ w1897.ex hmasks_here0))) (ea_cons (e_var (R := rI) (x := x1901) rfl h1905) (ea_cons (e_var (R := rI) (x := told0) rfl rfl) ea_nil)))))))) ea_nil)))) (by first | exact hx1910 | (simp only [Option.bind_eq_bind, Option.bind_some, Option.bind_assoc] at hx1910 ⊢; exact hx1910)) ?_ ?_
      · intro hbb1909 H1911 w1912
        subst hbb1909
        obtain ⟨a1913, hx1914, h⟩ := bindS h
        have h : a1913 = r := Option.some.inj h
        subst h
        exact x_ret w1912 e_bl hx1914 (fun v9 H9 G9 w9 e9 r9 => k v9 H9 G9 w9.upE r9)
      · intro hbb1909 H1915 w1916
        subst hbb1909
        refine x_next ?_
        obtain ⟨n1917, hx1918, h⟩ := bindS h
        obtain ⟨xs1919, hx1920, h⟩ := bindS h
        obtain ⟨t1922, hx1923, h⟩ := bindS h
        refine x_forR w1916 (ea_cons (Sim.E.is (e_cb rc_lenL (ea_cons (e_var (R := (rL rI)) (x := masks_here0) rfl hmasks_here0) ea_nil)) hx1918) ea_nil) rfl hx1920 (fun i G' H' σ' => ∃ s1924 : Unit, ∃ u1925 : Option V, ∃ u1926 : Option V, Wo G H [] G' H' [] ∧ Evl.Ex G G' ∧ σ' = [some vmasks_here0, some vseveral0, some (V.int told0), u1925, u1926] ∧ forL (m__law_joins_list_b1 masks_here0 several0 told0) (xs1919.drop i) s1924 = some t1922) ?_ ?_ ?_
        · intro G' H' w' e'
          exact ⟨(), (none), (none), w', e', rfl, hx1923⟩
        · rintro i1934 x1935 σ' G1930 H1933 hx1936 ⟨s1924, u1925, u1926, w1931, e1932, rfl, hm1928⟩
          obtain ⟨q1929, hb1927, hm1928⟩ := forL_at hx1936 hm1928
          have h1937 := Rep.mono _ e1932 hmasks_here0
          have h1938 := Rep.mono _ e1932 hseveral0
          refine g_name ?_
          unfold m__law_joins_list_b1 at hb1927
          obtain ⟨b1950, hx1951, hb1927⟩ := bindS hb1927
          refine x_if w1931 (et_and (et_B (e_cb rc_all (ea_cons (EL.e (el_map (el_lcL (j := 4) (e_var (R := (rL rI)) (x := several0) rfl (Rep.mono _ w1931.ex h1938)) (fun _ => rfl) (fun _ _ _ _ _ _ _ _ => et_yes) (fun x1942 v1945 G1943 W1944 eG1939 eW1940 eX1941 h1946 => (e_call (ea_cons (e_var (R := (rL rI)) (x := masks_here0) rfl (Rep.mono _ eG1939 (Rep.mono _ w1931.ex h1937))) (ea_cons (e_var (R := rI) (x := x1942) rfl h1946) (ea_cons (e_var (R := rI) (x := x1935) rfl rfl) ea_nil)))))))) ea_nil))) (et_not (et_B (e_call (ea_cons (e_var (R := (rL rI)) (x := masks_here0) rfl (Rep.mono _ w1931.ex h1937)) (ea_cons (e_var (R := rI) (x := told0) rfl rfl) (ea_cons (e_var (R := rI) (x := x1935) rfl rfl) ea_nil))))))) (by first | exact hx1951 | (simp only [Option.bind_eq_bind, Option.bind_some, Option.bind_assoc] at hx1951 ⊢; exact hx1951)) ?_ ?_
          · intro hbb1950 H1952 w1953
            subst hbb1950
            obtain ⟨a1954, hx1955, hb1927⟩ := bindS hb1927
            have hb1927 : some (Stp.rt a1954) = some q1929 := hb1927
            cases hb1927
            have hm1928 : some (Sum.inr a1954) = some t1922 := hm1928
            cases hm1928
            have h : a1954 = r := Option.some.inj h
            subst h
            exact x_ret w1953 e_bl hx1955 (fun v9 H9 G9 w9 e9 r9 => k v9 H9 G9 w9.upE r9)
          · intro hbb1950 H1956 w1957
            subst hbb1950
            refine x_next ?_
            refine x_next ?_
            have hb1927 : Stp.nx () = q1929 := Option.some.inj hb1927
            subst hb1927
            exact ⟨G1930, (), (some (V.int x1935)), (u1926), w1957, e1932, rfl, hm1928⟩
        · rintro σ' G1958 H1961 ⟨s1924, u1925, u1926, w1959, e1960, rfl, hm1928⟩
          have hm1928 := forL_end hm1928
          subst hm1928
          have h1963 := Rep.mono _ e1960 hmasks_here0
          have h1964 := Rep.mono _ e1960 hseveral0
          obtain ⟨a1965, hx1966, h⟩ := bindS h
          have h : a1965 = r := Option.some.inj h
          subst h
          exact x_ret w1959 e_bl hx1966 (fun v9 H9 G9 w9 e9 r9 => k v9 H9 G9 w9.upE r9)
def m__law_meets_list_b1 (masks_here0 : (List Int)) (several0 : (List Int)) (told0 : Int) (x2013 : Int) (s2002 : Unit) : Option (Stp Unit Bool) :=
  ((andO ((mapS (fun x2020 => m__law_under masks_here0 x2013 x2020) several0 >>= fun t2026 => some (t2026.all id))) ((m__law_under masks_here0 x2013 told0 >>= fun t2027 => some (!t2027)))) >>= fun b2028 => bif b2028 then (some false >>= fun a2032 => some (Stp.rt a2032)) else some (Stp.nx ()))
def m__law_meets_list (masks_here0 : (List Int)) (several0 : (List Int)) (told0 : Int) : Option Bool :=
  ((orO ((m__law_int told0 >>= fun t1967 => some (!t1967))) (some ((decide (told0 < (0 : Int))) || (decide ((masks_here0.length : Int) ≤ told0))))) >>= fun b1968 => bif b1968 then (some false >>= fun a1972 => some a1972) else (((mapS (fun x1979 => m__law_under masks_here0 told0 x1979) several0 >>= fun t1985 => some (t1985.all id)) >>= fun t1986 => some (!t1986)) >>= fun b1987 => bif b1987 then (some false >>= fun a1991 => some a1991) else (some (masks_here0.length : Int) >>= fun n1995 => rngM 0 n1995 >>= fun xs1997 => forL (m__law_meets_list_b1 masks_here0 several0 told0) xs1997 () >>= Sum.elim (fun s2002 => (some true >>= fun a2043 => some a2043)) (fun r => some r))))
theorem sc__law_meets_list : FnScope ["_law_masks_here", "_law_several", "_law_told", "_law_other", "_law_value"] ["_law_masks_here", "_law_several", "_law_told"] (defScope s__law_meets_list) := ⟨rfl, rfl, rfl, by decide +kernel, rfl, by decide +kernel, by decide +kernel⟩
theorem ok__law_meets_list (T : Tx K mg) : Fk P w K mg base CX0 2 "_law_meets_list" ["_law_masks_here", "_law_several", "_law_told"] (PF (aC (rL rI) (aC (rL rI) (aC rI aN))) rB (fun i => m__law_meets_list i.1 i.2.1 i.2.2.1)) := by
  obtain ⟨fd__law_int, G__law_int, b__law_int, k__law_int, g__law_int⟩ := ok__law_int (w := w) (base := base) T
  obtain ⟨fd__law_under, G__law_under, b__law_under, k__law_under, g__law_under⟩ := ok__law_under (w := w) (base := base) T
  obtain ⟨fd, F⟩ := T.def_ 22 rfl
  have nd := sc__law_meets_list.nd
  refine fk_mk T.toTx (x := "_law_meets_list") (T.glo 23 rfl) F (fun _ _ _ _ _ _ us hl => match us, hl with | [_, _, _], _ => rfl) (F.ok sc__law_meets_list (fun vs H Q E h => ?_) (fun cdv A outer s H vs Q E hr h => ?_))
  · obtain ⟨G, ⟨masks_here0, several0, told0, ⟨⟩⟩, r, e0, ⟨vmasks_here0, _, rfl, hmasks_here0, vseveral0, _, rfl, hseveral0, vtold0, _, rfl, htold0, rfl⟩, h, k⟩ := h
    rfl
  · obtain ⟨G, ⟨masks_here0, several0, told0, ⟨⟩⟩, r, e0, ⟨vmasks_here0, _, rfl, hmasks_here0, vseveral0, _, rfl, hseveral0, vtold0, _, rfl, htold0, rfl⟩, h, k⟩ := h
    cases htold0
    have w0 := Wo.start e0
    have h : m__law_meets_list masks_here0 several0 told0 = some r := h
    unfold m__law_meets_list at h
    refine ⟨_, PSs.nox (pss_cons (ps_if (PW.pt (pw_or (pt_not (pt_val (pe_call G__law_int (hr.mono (by decide)) rfl g__law_int k__law_int b__law_int .nil pass0 (pa_cons (pv 2) pa_nil)))) (pw_or (pt_cmpR op_lt (pv 2) pe_int (nomark _)) (pw_or1 (pt_cmpR op_ge (pv 2) (pe_callB (r := rLn K) call_len_seq (by rfl) (fr_len T) (by decide +kernel) (pa_cons (pv 0) pa_nil)) (nomark _)))))) (pss_cons (ps_ret pe_bl) pss_nil) pss_nil) (pss_cons (ps_if (pt_not (pt_val (pe_callB (r := rAll K) (cr_all rfl) (by rfl) (fr_all T) (by decide +kernel) (pa_cons (pe_lc (own := [("_law_value", 4)]) (by rfl) nd (show L2.PI _ _ _ (iList K _) from pi_list (pv 1)) (blkOk_by (by kernel_rfl)) (fun _ _ _ _ _ => pg_name (i := 4) nd rfl (by first | exact Or.inl rfl | exact Or.inr rfl)) (fun _ _ _ _ _ => pts_nil) (fun _ _ _ _ _ => (pe_call G__law_under (hr.mono (by decide)) rfl g__law_under k__law_under b__law_under .nil pass0 (pa_cons (pv 0) (pa_cons (pv 2) (pa_cons (pv 4) pa_nil)))))) pa_nil)))) (pss_cons (ps_ret pe_bl) pss_nil) pss_nil) (pss_cons (ps_for PassesOwn.never rfl (pi_range1 (by rfl) (fr_range T) (pa_cons (pe_callB (r := rLn K) call_len_seq (by rfl) (fr_len T) (by decide +kernel) (pa_cons (pv 0) pa_nil)) pa_nil)) (pg_name (i := 3) nd rfl (Or.inr rfl)) (pss_cons (ps_if (PW.pt (pw_and (pt_val (pe_callB (r := rAll K) (cr_all rfl) (by rfl) (fr_all T) (by decide +kernel) (pa_cons (pe_lc (own := [("_law_value", 4)]) (by rfl) nd (show L2.PI _ _ _ (iList K _) from pi_list (pv 1)) (blkOk_by (by kernel_rfl)) (fun _ _ _ _ _ => pg_name (i := 4) nd rfl (by first | exact Or.inl rfl | exact Or.inr rfl)) (fun _ _ _ _ _ => pts_nil) (fun _ _ _ _ _ => (pe_call G__law_under (hr.mono (by decide)) rfl g__law_under k__law_under b__law_under .nil pass0 (pa_cons (pv 0) (pa_cons (pv 3) (pa_cons (pv 4) pa_nil)))))) pa_nil))) (pw_and1 (pt_not (pt_val (pe_call G__law_under (hr.mono (by decide)) rfl g__law_under k__law_under b__law_under .nil pass0 (pa_cons (pv 0) (pa_cons (pv 3) (pa_cons (pv 2) pa_nil))))))))) (pss_cons (ps_ret pe_bl) pss_nil) pss_nil) pss_nil)) (pss_cons (ps_ret pe_bl) pss_nil)))), ?_⟩
    obtain ⟨b1968, hx1969, h⟩ := bindS h
    refine x_if w0 (et_or (et_not (et_B (e_call (ea_cons (e_var (R := rI) (x := told0) rfl rfl) ea_nil)))) (et_orP (et_T (e_op rr_lt (e_var (R := rI) (x := told0) rfl rfl) e_int)) (et_T (e_op rr_ge (e_var (R := rI) (x := told0) rfl rfl) (e_cb rc_lenL (ea_cons (e_var (R := (rL rI)) (x := masks_here0) rfl (Rep.mono _ w0.ex hmasks_here0)) ea_nil)))))) hx1969 ?_ ?_
    · intro hbb1968 H1970 w1971
      subst hbb1968
      obtain ⟨a1972, hx1973, h⟩ := bindS h
      have h : a1972 = r := Option.some.inj h
      subst h
      exact x_ret w1971 e_bl hx1973 (fun v9 H9 G9 w9 e9 r9 => k v9 H9 G9 w9.upE r9)
    · intro hbb1968 H1974 w1975
      subst hbb1968
      refine x_next ?_
      obtain ⟨b1987, hx1988, h⟩ := bindS h
      refine x_if w1975 (et_not (et_B (e_cb rc_all (ea_cons (EL.e (el_map (el_lcL (j := 4) (e_var (R := (rL rI)) (x := several0) rfl (Rep.mono _ w1975.ex hseveral0)) (fun _ => rfl) (fun _ _ _ _ _ _ _ _ => et_yes) (fun x1979 v1982 G1980 W1981 eG1976 eW1977 eX1978 h1983 => (e_call (ea_cons (e_var (R := (rL rI)) (x := masks_here0) rfl (Rep.mono _ eG1976 (Rep.mono _ w1975.ex hmasks_here0))) (ea_cons (e_var (R := rI) (x := told0) rfl rfl) (ea_cons (e_var (R := rI) (x := x1979) rfl h1983) ea_nil)))))))) ea_nil)))) (by first | exact hx1988 | (simp only [Option.bind_eq_bind, Option.bind_some, Option.bind_assoc] at hx1988 ⊢; exact hx1988)) ?_ ?_
      · intro hbb1987 H1989 w1990
        subst hbb1987
        obtain ⟨a1991, hx1992, h⟩ := bindS h
        have h : a1991 = r := Option.some.inj h
        subst h
        exact x_ret w1990 e_bl hx1992 (fun v9 H9 G9 w9 e9 r9 => k v9 H9 G9 w9.upE r9)
      · intro hbb1987 H1993 w1994
        subst hbb1987
        refine x_next ?_
        obtain ⟨n1995, hx1996, h⟩ := bindS h
        obtain ⟨xs1997, hx1998, h⟩ := bindS h
        obtain ⟨t2000, hx2001, h⟩ := bindS h
        refine x_forR w1994 (ea_cons (Sim.E.is (e_cb rc_lenL (ea_cons (e_var (R := (rL rI)) (x := masks_here0) rfl hmasks_here0) ea_nil)) hx1996) ea_nil) rfl hx1998 (fun i G' H' σ' => ∃ s2002 : Unit, ∃ u2003 : Option V, ∃ u2004 : Option V, Wo G H [] G' H' [] ∧ Evl.Ex G G' ∧ σ' = [some vmasks_here0, some vseveral0, some (V.int told0), u2003, u2004] ∧ forL (m__law_meets_list_b1 masks_here0 several0 told0) (xs1997.drop i) s2002 = some t2000) ?_ ?_ ?_
        · intro G' H' w' e'
          exact ⟨(), (none), (none), w', e', rfl, hx2001⟩
        · rintro i2012 x2013 σ' G2008 H2011 hx2014 ⟨s2002, u2003, u2004, w2009, e2010, rfl, hm2006⟩
          obtain ⟨q2007, hb2005, hm2006⟩ := forL_at hx2014 hm2006
          have h2015 := Rep.mono _ e2010 hmasks_here0
          have h2016 := Rep.mono _ e2010 hseveral0
          refine g_name ?_
          unfold m__law_meets_list_b1 at hb2005
          obtain ⟨b2028, hx2029, hb2005⟩ := bindS hb2005
          refine x_if w2009 (et_and (et_B (e_cb rc_all (ea_cons (EL.e (el_map (el_lcL (j := 4) (e_var (R := (rL rI)) (x := several0) rfl (Rep.mono _ w2009.ex h2016)) (fun _ => rfl) (fun _ _ _ _ _ _ _ _ => et_yes) (fun x2020 v2023 G2021 W2022 eG2017 eW2018 eX2019 h2024 => (e_call (ea_cons (e_var (R := (rL rI)) (x := masks_here0) rfl (Rep.mono _ eG2017 (Rep.mono _ w2009.ex h2015))) (ea_cons (e_var (R := rI) (x := x2013) rfl rfl) (ea_cons (e_var (R := rI) (x := x2020) rfl h2024) ea_nil)))))))) ea_nil))) (et_not (et_B (e_call (ea_cons (e_var (R := (rL rI)) (x := masks_here0) rfl (Rep.mono _ w2009.ex h2015)) (ea_cons (e_var (R := rI) (x := x2013) rfl rfl) (ea_cons (e_var (R := rI) (x := told0) rfl rfl) ea_nil))))))) (by first | exact hx2029 | (simp only [Option.bind_eq_bind, Option.bind_some, Option.bind_assoc] at hx2029 ⊢; exact hx2029)) ?_ ?_
          · intro hbb2028 H2030 w2031
            subst hbb2028
            obtain ⟨a2032, hx2033, hb2005⟩ := bindS hb2005
            have hb2005 : some (Stp.rt a2032) = some q2007 := hb2005
            cases hb2005
            have hm2006 : some (Sum.inr a2032) = some t2000 := hm2006
            cases hm2006
            have h : a2032 = r := Option.some.inj h
            subst h
            exact x_ret w2031 e_bl hx2033 (fun v9 H9 G9 w9 e9 r9 => k v9 H9 G9 w9.upE r9)
          · intro hbb2028 H2034 w2035
            subst hbb2028
            refine x_next ?_
            refine x_next ?_
            have hb2005 : Stp.nx () = q2007 := Option.some.inj hb2005
            subst hb2005
            exact ⟨G2008, (), (some (V.int x2013)), (u2004), w2035, e2010, rfl, hm2006⟩
        · rintro σ' G2036 H2039 ⟨s2002, u2003, u2004, w2037, e2038, rfl, hm2006⟩
          have hm2006 := forL_end hm2006
          subst hm2006
          have h2041 := Rep.mono _ e2038 hmasks_here0
          have h2042 := Rep.mono _ e2038 hseveral0
          obtain ⟨a2043, hx2044, h⟩ := bindS h
          have h : a2043 = r := Option.some.inj h
          subst h
          exact x_ret w2037 e_bl hx2044 (fun v9 H9 G9 w9 e9 r9 => k v9 H9 G9 w9.upE r9)
def m__law_list_refused (order0 : m_Order) (door0 : Int) (several0 : (List Int)) : Option (Option Int) :=
  (some (none : (Option Int)) >>= fun caught_2045 => ((some (door0 == (0 : Int)) >>= fun b2143 => bif b2143 then (m_Order_join_all_X order0 several0 >>= fun r2147 => Sum.elim (fun e2149 => (bif (["NotElement"] : List Str).contains e2149.cls then ((xI e2149 "value" >>= fun t2162 => some (some t2162)) >>= fun caught_2163 => some caught_2163) else none)) (fun x2175 => some caught_2045) r2147) else (m_Order_meet_all_X order0 several0 >>= fun r2186 => Sum.elim (fun e2188 => (bif (["NotElement"] : List Str).contains e2188.cls then ((xI e2188 "value" >>= fun t2201 => some (some t2201)) >>= fun caught_2202 => some caught_2202) else none)) (fun x2214 => some caught_2045) r2186)) >>= fun s2136 => (some s2136 >>= fun a2227 => some a2227)))
theorem sc__law_list_refused : FnScope ["_law_order", "_law_door", "_law_several", "_law_caught", "e"] ["_law_order", "_law_door", "_law_several"] (defScope s__law_list_refused) := ⟨rfl, rfl, rfl, by decide +kernel, rfl, by decide +kernel, by decide +kernel⟩
theorem ok__law_list_refused (T : Tx K mg) : Fk P w K mg base CX0 6 "_law_list_refused" ["_law_order", "_law_door", "_law_several"] (PF (aC (r_Order K) (aC rI (aC (rL rI) aN))) (rO rI) (fun i => m__law_list_refused i.1 i.2.1 i.2.2.1)) := by
  obtain ⟨fd_Order_join_all_X, G_Order_join_all_X, b_Order_join_all_X⟩ := ok_Order_join_all_X (w := w) (base := base) T
  obtain ⟨fd_Order_meet_all_X, G_Order_meet_all_X, b_Order_meet_all_X⟩ := ok_Order_meet_all_X (w := w) (base := base) T
  obtain ⟨fd, F⟩ := T.def_ 23 rfl
  have nd := sc__law_list_refused.nd
  refine fk_mk T.toTx (x := "_law_list_refused") (T.glo 24 rfl) F (fun _ _ _ _ _ _ us hl => match us, hl with | [_, _, _], _ => rfl) (F.ok sc__law_list_refused (fun vs H Q E h => ?_) (fun cdv A outer s H vs Q E hr h => ?_))
  · obtain ⟨G, ⟨order0, door0, several0, ⟨⟩⟩, r, e0, ⟨vorder0, _, rfl, horder0, vdoor0, _, rfl, hdoor0, vseveral0, _, rfl, hseveral0, rfl⟩, h, k⟩ := h
    rfl
  · obtain ⟨G, ⟨order0, door0, several0, ⟨⟩⟩, r, e0, ⟨vorder0, _, rfl, horder0, vdoor0, _, rfl, hdoor0, vseveral0, _, rfl, hseveral0, rfl⟩, h, k⟩ := h
    cases hdoor0
    have w0 := Wo.start e0
    have h : m__law_list_refused order0 door0 several0 = some r := h
    unfold m__law_list_refused at h
    refine ⟨_, PSs.nox (pss_cons (ps_set (i := 3) nd rfl (Or.inl rfl) pe_non) (Evl.pss_cut (ps_tryA nd rfl rfl takes_no (fun _ _ _ tk2055 po2055 => (pss_cons (ps_if (pt_cmpR op_eq (pv 1) pe_int (nomark _)) (pss_cons (ps_expr (pe_methT (pv 0) (T.cls 38 rfl) (T.meth 47 rfl) G_Order_join_all_X (hr.mono (by decide)) b_Order_join_all_X (passAt tk2055) (pa_cons (pv 2) pa_nil))) pss_nil) (pss_cons (ps_expr (pe_methT (pv 0) (T.cls 38 rfl) (T.meth 48 rfl) G_Order_meet_all_X (hr.mono (by decide)) b_Order_meet_all_X (passAt tk2055) (pa_cons (pv 2) pa_nil))) pss_nil)) pss_nil)) (HdsA.as_ (i := 4) ⟨by rfl, by decide, Or.inl (T.glo 3 rfl)⟩ rfl rfl (fun a12055_0 oe2055_0 cls2055_0 d2055_0 pn2055_0 z2055_0 f2055_0 => (pss_cons (ps_set (i := 3) nd rfl (Or.inl rfl) (pe_xz z2055_0 f2055_0 (pv 4))) pss_nil)) HdsA.nil)) (pss_cons (ps_ret (pv 3)) pss_nil))), ?_⟩
    obtain ⟨caught_2045, hx2046, h⟩ := bindS h
    refine x_set w0 (e_none (R := rI)) hx2046 ?_
    intro v2049 H2047 G2050 w2048 e2051 h2052
    have h2053 := Rep.mono _ e2051 horder0
    have h2054 := Rep.mono _ e2051 hseveral0
    obtain ⟨s2136, hx2137, h⟩ := bindS h
    refine o_cut (fun σ' H' => ∃ v2138 : V, ∃ u2140 : Option V, ∃ G' : Hp, Wo G H [] G' H' [] ∧ Evl.Ex G2050 G' ∧ σ' = [some vorder0, some (V.int door0), some vseveral0, some v2138, u2140] ∧ (rO rI).r G' v2138 s2136) ?_ ?_
    · refine o_try ?_
      obtain ⟨b2143, hx2144, hx2137⟩ := bindS hx2137
      refine x_if w2048 (et_T (e_op rr_eqI (e_var (R := rI) (x := door0) rfl rfl) e_int)) hx2144 ?_ ?_
      · intro hbb2143 H2145 w2146
        subst hbb2143
        obtain ⟨r2147, hx2148, hx2137⟩ := bindS hx2137
        refine x_callX w2146 (ex_meth (e_var (R := (r_Order K)) (x := order0) rfl h2053) (ea_cons (e_var (R := (rL rI)) (x := several0) rfl h2054) ea_nil) (by decide +kernel)) (by first | exact hx2148 | (simp only [Option.bind_eq_bind, Option.bind_some, Option.bind_assoc] at hx2148 ⊢; exact hx2148)) ?_ ?_
        · intro e2149 he2150 d2151 H2152 G2153 w2154 e2155 xa2156
          subst he2150
          have hx2137 := sumL hx2137
          have h2157 := Rep.mono _ e2155 h2053
          have h2158 := Rep.mono _ e2155 h2054
          have h2159 := Rep.mono _ e2155 h2052
          rcases bifO hx2137 with ⟨hc2160, hx2137⟩ | ⟨_, hx2137⟩
          · refine ⟨true, xa_ok (T.mo 3 rfl) hc2160, fun _ ax2161 naax2161 => ?_, fun z => nomatch z⟩
            obtain ⟨caught_2163, hx2164, hx2137⟩ := bindS hx2137
            refine x_set w2154 (e_some (e_xz (a := ax2161) rfl xa2156 (xs_ok (T.mo 1 rfl) hc2160).2 (xn_ok (T.mo 2 rfl) hc2160 (by decide)))) (by first | exact hx2164 | (simp only [Option.bind_eq_bind, Option.bind_some, Option.bind_assoc] at hx2164 ⊢; exact hx2164)) ?_
            intro v2167 H2165 G2168 w2166 e2169 h2170
            have h2171 := Rep.mono _ e2169 h2157
            have h2172 := Rep.mono _ e2169 h2158
            have h2173 := Rep.mono _ e2169 h2159
            have xa2174 := Xat.mono e2169 xa2156
            refine x_next ?_
            have hx2137 : caught_2163 = s2136 := Option.some.inj hx2137
            subst hx2137
            exact ⟨v2167, (none), G2168, w2166, (e2155.trans e2169), rfl, h2170⟩
          · cases hx2137
        · intro x2175 he2176 H2177 G2178 w2179 e2180
          subst he2176
          have hx2137 := sumR hx2137
          have h2181 := Rep.mono _ e2180 h2053
          have h2182 := Rep.mono _ e2180 h2054
          have h2183 := Rep.mono _ e2180 h2052
          refine x_next ?_
          refine x_next ?_
          have hx2137 : caught_2045 = s2136 := Option.some.inj hx2137
          subst hx2137
          exact ⟨v2049, (none), G2178, w2179, e2180, rfl, h2183⟩
      · intro hbb2143 H2184 w2185
        subst hbb2143
        obtain ⟨r2186, hx2187, hx2137⟩ := bindS hx2137
        refine x_callX w2185 (ex_meth (e_var (R := (r_Order K)) (x := order0) rfl h2053) (ea_cons (e_var (R := (rL rI)) (x := several0) rfl h2054) ea_nil) (by decide +kernel)) (by first | exact hx2187 | (simp only [Option.bind_eq_bind, Option.bind_some, Option.bind_assoc] at hx2187 ⊢; exact hx2187)) ?_ ?_
        · intro e2188 he2189 d2190 H2191 G2192 w2193 e2194 xa2195
          subst he2189
          have hx2137 := sumL hx2137
          have h2196 := Rep.mono _ e2194 h2053
          have h2197 := Rep.mono _ e2194 h2054
          have h2198 := Rep.mono _ e2194 h2052
          rcases bifO hx2137 with ⟨hc2199, hx2137⟩ | ⟨_, hx2137⟩
          · refine ⟨true, xa_ok (T.mo 3 rfl) hc2199, fun _ ax2200 naax2200 => ?_, fun z => nomatch z⟩
            obtain ⟨caught_2202, hx2203, hx2137⟩ := bindS hx2137
            refine x_set w2193 (e_some (e_xz (a := ax2200) rfl xa2195 (xs_ok (T.mo 1 rfl) hc2199).2 (xn_ok (T.mo 2 rfl) hc2199 (by decide)))) (by first | exact hx2203 | (simp only [Option.bind_eq_bind, Option.bind_some, Option.bind_assoc] at hx2203 ⊢; exact hx2203)) ?_
            intro v2206 H2204 G2207 w2205 e2208 h2209
            have h2210 := Rep.mono _ e2208 h2196
            have h2211 := Rep.mono _ e2208 h2197
            have h2212 := Rep.mono _ e2208 h2198
            have xa2213 := Xat.mono e2208 xa2195
            refine x_next ?_
            have hx2137 : caught_2202 = s2136 := Option.some.inj hx2137
            subst hx2137
            exact ⟨v2206, (none), G2207, w2205, (e2194.trans e2208), rfl, h2209⟩
          · cases hx2137
        · intro x2214 he2215 H2216 G2217 w2218 e2219
          subst he2215
          have hx2137 := sumR hx2137
          have h2220 := Rep.mono _ e2219 h2053
          have h2221 := Rep.mono _ e2219 h2054
          have h2222 := Rep.mono _ e2219 h2052
          refine x_next ?_
          refine x_next ?_
          have hx2137 : caught_2045 = s2136 := Option.some.inj hx2137
          subst hx2137
          exact ⟨v2049, (none), G2217, w2218, e2219, rfl, h2222⟩
    · rintro σ' H2224 ⟨v2138, u2140, G2223, w2142, e2141, rfl, h2139⟩
      have h2225 := Rep.mono _ e2141 h2053
      have h2226 := Rep.mono _ e2141 h2054
      obtain ⟨a2227, hx2228, h⟩ := bindS h
      have h : a2227 = r := Option.some.inj h
      subst h
      exact x_ret w2142 (e_var (R := (rO rI)) (x := s2136) rfl h2139) hx2228 (fun v9 H9 G9 w9 e9 r9 => k v9 H9 G9 w9.upE r9)
def m_law_b1 (size_2257 : Int) (x2315 : Int) (s2305 : ((List Int) × (List Int))) : Option ((List Int) × (List Int)) :=
  (some size_2257 >>= fun x2320 => (m__law_draw s2305.1 x2320 >>= fun x2325 => (appM s2305.2 x2325.1 >>= fun several_2337 => some ((x2325.2, several_2337)))))
def m_law (script0 : (List Int)) : Option Bool :=
  (m__law_pot script0 >>= fun pot_here_2229 => (some (9 : Int) >>= fun x2238 => (m__law_masks pot_here_2229 x2238 >>= fun x2243 => (some (x2243.1.length : Int) >>= fun size_2257 => ((m__law_pairs x2243.1 >>= fun t2261 => m_Order___init__ size_2257 t2261) >>= fun order_2262 => (some ([]) >>= fun several_2272 => (some (10 : Int) >>= fun x2283 => (m__law_draw x2243.2 x2283 >>= fun x2288 => (rngM 0 x2288.1 >>= fun xs2300 => forS (m_law_b1 size_2257) xs2300 (x2288.2, several_2272) >>= fun s2305 => (some s2305.2 >>= fun handed_2358 => (m_Order_join_all_B order_2262 handed_2358 >>= fun join_2370 => (m_Order_meet_all_B order_2262 handed_2358 >>= fun meet_2374 => ((orO (some (!decide (handed_2358 = s2305.2))) ((orO ((m__law_joins_list x2243.1 s2305.2 join_2370 >>= fun t2378 => some (!t2378))) ((m__law_meets_list x2243.1 s2305.2 meet_2374 >>= fun t2379 => some (!t2379)))))) >>= fun b2380 => bif b2380 then (some false >>= fun a2384 => some a2384) else (some (handed_2358.reverse) >>= fun handed_2388 => ((orO ((m_Order_join_all order_2262 handed_2358.reverse >>= fun t2400 => some (!(t2400 == join_2370)))) ((m_Order_meet_all order_2262 handed_2358.reverse >>= fun t2401 => some (!(t2401 == meet_2374))))) >>= fun b2402 => bif b2402 then (some false >>= fun a2406 => some a2406) else ((orO (((catM s2305.2 handed_2358.reverse >>= fun t2410 => m_Order_join_all order_2262 t2410) >>= fun t2411 => some (!(t2411 == join_2370)))) (((catM handed_2358.reverse s2305.2 >>= fun t2412 => m_Order_meet_all order_2262 t2412) >>= fun t2413 => some (!(t2413 == meet_2374))))) >>= fun b2414 => bif b2414 then (some false >>= fun a2418 => some a2418) else (some (7 : Int) >>= fun x2422 => (m__law_draw s2305.1 x2422 >>= fun x2427 => ((powM (10 : Int) (17 : Int) >>= fun t2440 => some ([(size_2257 + x2427.1), t2440, ((-(1 : Int)) - x2427.1)])) >>= fun bads_2441 => (some bads_2441 >>= fun x2454 => (some (3 : Int) >>= fun x2469 => (m__law_draw x2427.2 x2469 >>= fun x2474 => (atI x2454 x2474.1 >>= fun x2489 => (some bads_2441 >>= fun x2504 => (some (3 : Int) >>= fun x2519 => (m__law_draw x2474.2 x2519 >>= fun x2524 => (atI x2504 x2524.1 >>= fun x2539 => (some s2305.2 >>= fun spoilt_2554 => (some ((spoilt_2554.length : Int) + (1 : Int)) >>= fun x2568 => (m__law_draw x2524.2 x2568 >>= fun x2573 => (some x2573.1 >>= fun x2587 => (some x2489 >>= fun x2592 => (insM spoilt_2554 x2587 x2592 >>= fun spoilt_2597 => (some (x2573.1 + (1 : Int)) >>= fun x2601 => (some ((spoilt_2597.length : Int) - x2573.1) >>= fun x2606 => (m__law_draw x2573.2 x2606 >>= fun x2611 => (some (x2601 + x2611.1) >>= fun x2625 => (some x2539 >>= fun x2640 => (insM spoilt_2597 x2625 x2640 >>= fun spoilt_2645 => ((orO ((m__law_list_refused order_2262 (0 : Int) s2305.2 >>= fun t2649 => some t2649.isSome)) ((m__law_list_refused order_2262 (1 : Int) s2305.2 >>= fun t2650 => some t2650.isSome))) >>= fun b2651 => bif b2651 then (some false >>= fun a2655 => some a2655) else ((andO ((m__law_list_refused order_2262 (0 : Int) spoilt_2645 >>= fun t2669 => some (decide (t2669 = (some x2489))))) ((m__law_list_refused order_2262 (1 : Int) spoilt_2645 >>= fun t2670 => some (decide (t2670 = (some x2489)))))) >>= fun a2671 => some a2671)))))))))))))))))))))))))))))))))))))))))
theorem sc_law : FnScope ["_law_script", "_law_pot_here", "_law_masks_here", "_law_size", "_law_order", "_law_several", "_law_k", "_law_handed", "_law_join", "_law_meet", "_law_far", "_law_bads", "_law_bad", "_law_later", "_law_spoilt", "_law_place"] ["_law_script"] (defScope s_law) := ⟨rfl, rfl, rfl, by decide +kernel, rfl, by decide +kernel, by decide +kernel⟩
theorem ok_law (T : Tx K mg) : ∃ fd, FunD K "law" "law" (defArgs s_law) (defBody s_law) (defScope s_law) [] [] (He.ga K "law") fd ∧ ∀ base : Heap, FnOk P w K mg base CX0 7 (He.ga K "law") fd ["_law_script"] (PF (aC (rScr K) aN) rB (fun i => m_law i.1)) := by
  obtain ⟨fd, F⟩ := T.def_ 24 rfl
  refine ⟨fd, F, fun base => ?_⟩
  obtain ⟨fd__law_pot, G__law_pot, b__law_pot, k__law_pot, g__law_pot⟩ := ok__law_pot (w := w) (base := base) T
  obtain ⟨fd__law_masks, G__law_masks, b__law_masks, k__law_masks, g__law_masks⟩ := ok__law_masks (w := w) (base := base) T
  obtain ⟨fd_Order___init__, G_Order___init__, b_Order___init__⟩ := ok_Order___init__ (w := w) (base := base) T
  obtain ⟨fd__law_pairs, G__law_pairs, b__law_pairs, k__law_pairs, g__law_pairs⟩ := ok__law_pairs (w := w) (base := base) T
  obtain ⟨fd__law_draw, G__law_draw, b__law_draw, k__law_draw, g__law_draw⟩ := ok__law_draw (w := w) (base := base) T
  obtain ⟨fd_Order_join_all_B, G_Order_join_all_B, b_Order_join_all_B⟩ := ok_Order_join_all_B (w := w) (base := base) T
  obtain ⟨fd_Order_meet_all_B, G_Order_meet_all_B, b_Order_meet_all_B⟩ := ok_Order_meet_all_B (w := w) (base := base) T
  obtain ⟨fd__law_joins_list, G__law_joins_list, b__law_joins_list, k__law_joins_list, g__law_joins_list⟩ := ok__law_joins_list (w := w) (base := base) T
  obtain ⟨fd__law_meets_list, G__law_meets_list, b__law_meets_list, k__law_meets_list, g__law_meets_list⟩ := ok__law_meets_list (w := w) (base := base) T
  obtain ⟨fd_Order_join_all, G_Order_join_all, b_Order_join_all⟩ := ok_Order_join_all (w := w) (base := base) T
  obtain ⟨fd_Order_meet_all, G_Order_meet_all, b_Order_meet_all⟩ := ok_Order_meet_all (w := w) (base := base) T
  obtain ⟨fd__law_list_refused, G__law_list_refused, b__law_list_refused, k__law_list_refused, g__law_list_refused⟩ := ok__law_list_refused (w := w) (base := base) T
  have nd := sc_law.nd
  refine (F.ok sc_law (fun vs H Q E h => ?_) (fun cdv A outer s H vs Q E hr h => ?_))
  · obtain ⟨G, ⟨script0, ⟨⟩⟩, r, e0, ⟨vscript0, _, rfl, hscript0, rfl⟩, h, k⟩ := h
    rfl
  · obtain ⟨G, ⟨script0, ⟨⟩⟩, r, e0, ⟨vscript0, _, rfl, hscript0, rfl⟩, h, k⟩ := h
    have w0 := Wo.start e0
    have h : m_law script0 = some r := h
    unfold m_law at h
    refine ⟨_, PSs.nox (pss_cons (ps_set (i := 1) nd rfl (Or.inl rfl) (pe_call G__law_pot (hr.mono (by decide)) rfl g__law_pot k__law_pot b__law_pot .nil pass0 (pa_cons (pv 0) pa_nil))) (pss_cons (ps_set (i := 2) nd rfl (Or.inl rfl) (pe_call G__law_masks (hr.mono (by decide)) rfl g__law_masks k__law_masks b__law_masks .nil pass0 (pa_cons (pv 1) (pa_cons pe_int pa_nil)))) (pss_cons (ps_set (i := 3) nd rfl (Or.inl rfl) (pe_callB (r := rLn K) call_len_seq (by rfl) (fr_len T) (by decide +kernel) (pa_cons (pv 2) pa_nil))) (pss_cons (ps_set (i := 4) nd rfl (Or.inl rfl) (pe_make (T.mkr 49 rfl) G_Order___init__ (hr.mono (by decide)) rfl (T.glo 15 rfl) b_Order___init__ .nil pass0 (pa_cons (pv 3) (pa_cons (pe_call G__law_pairs (hr.mono (by decide)) rfl g__law_pairs k__law_pairs b__law_pairs .nil pass0 (pa_cons (pv 2) pa_nil)) pa_nil)))) (pss_cons (ps_set (i := 5) nd rfl (Or.inl rfl) (pe_lst pa_nil)) (pss_cons (ps_for PassesOwn.never rfl (pi_range1 (by rfl) (fr_range T) (pa_cons (pe_call G__law_draw (hr.mono (by decide)) rfl g__law_draw k__law_draw b__law_draw .nil pass0 (pa_cons (pv 1) (pa_cons pe_int pa_nil))) pa_nil)) (pg_name (i := 6) nd rfl (Or.inl rfl)) (pss_cons (ps_expr (pe_bm PySem.F.plainAttrs_list PySem.F.slot_list_append PySem.F.type_list_append mt_append (pv 5) (pa_cons (pe_call G__law_draw (hr.mono (by decide)) rfl g__law_draw k__law_draw b__law_draw .nil pass0 (pa_cons (pv 1) (pa_cons (pv 3) pa_nil))) pa_nil))) pss_nil)) (pss_cons (ps_set (i := 7) nd rfl (Or.inl rfl) (pe_callTy (r := rLs K) call_list_of (by rfl) (fr_list T) (by decide +kernel) (pa_cons (pv 5) pa_nil))) (pss_cons (ps_set (i := 8) nd rfl (Or.inl rfl) (pe_meth (pv 4) (T.cls 38 rfl) (T.meth 47 rfl) G_Order_join_all_B (hr.mono (by decide)) b_Order_join_all_B .nil pass0 (pa_cons (pv 7) pa_nil))) (pss_cons (ps_set (i := 9) nd rfl (Or.inl rfl) (pe_meth (pv 4) (T.cls 38 rfl) (T.meth 48 rfl) G_Order_meet_all_B (hr.mono (by decide)) b_Order_meet_all_B .nil pass0 (pa_cons (pv 7) pa_nil))) (pss_cons (ps_if (PW.pt (pw_or (pt_cmpR (r := rNeP K) (op_neP hr.units) (pv 7) (pv 5) (nomark _)) (pw_or (pt_not (pt_val (pe_call G__law_joins_list (hr.mono (by decide)) rfl g__law_joins_list k__law_joins_list b__law_joins_list .nil pass0 (pa_cons (pv 2) (pa_cons (pv 5) (pa_cons (pv 8) pa_nil)))))) (pw_or1 (pt_not (pt_val (pe_call G__law_meets_list (hr.mono (by decide)) rfl g__law_meets_list k__law_meets_list b__law_meets_list .nil pass0 (pa_cons (pv 2) (pa_cons (pv 5) (pa_cons (pv 9) pa_nil)))))))))) (pss_cons (ps_ret pe_bl) pss_nil) pss_nil) (pss_cons (ps_expr (pe_bm0 PySem.F.plainAttrs_list PySem.F.slot_list_reverse PySem.F.type_list_reverse mt_reverse (pv 7))) (pss_cons (ps_if (PW.pt (pw_or (pt_cmpR op_ne (pe_meth (pv 4) (T.cls 38 rfl) (T.meth 47 rfl) G_Order_join_all (hr.mono (by decide)) b_Order_join_all .nil pass0 (pa_cons (pv 7) pa_nil)) (pv 8) (nomark _)) (pw_or1 (pt_cmpR op_ne (pe_meth (pv 4) (T.cls 38 rfl) (T.meth 48 rfl) G_Order_meet_all (hr.mono (by decide)) b_Order_meet_all .nil pass0 (pa_cons (pv 7) pa_nil)) (pv 9) (nomark _))))) (pss_cons (ps_ret pe_bl) pss_nil) pss_nil) (pss_cons (ps_if (PW.pt (pw_or (pt_cmpR op_ne (pe_meth (pv 4) (T.cls 38 rfl) (T.meth 47 rfl) G_Order_join_all (hr.mono (by decide)) b_Order_join_all .nil pass0 (pa_cons (pe_op op_cat (pv 5) (pv 7)) pa_nil)) (pv 8) (nomark _)) (pw_or1 (pt_cmpR op_ne (pe_meth (pv 4) (T.cls 38 rfl) (T.meth 48 rfl) G_Order_meet_all (hr.mono (by decide)) b_Order_meet_all .nil pass0 (pa_cons (pe_op op_cat (pv 7) (pv 5)) pa_nil)) (pv 9) (nomark _))))) (pss_cons (ps_ret pe_bl) pss_nil) pss_nil) (pss_cons (ps_set (i := 10) nd rfl (Or.inl rfl) (pe_call G__law_draw (hr.mono (by decide)) rfl g__law_draw k__law_draw b__law_draw .nil pass0 (pa_cons (pv 1) (pa_cons pe_int pa_nil)))) (pss_cons (ps_set (i := 11) nd rfl (Or.inl rfl) (pe_lst (pa_cons (pe_op op_add (pv 3) (pv 10)) (pa_cons (pe_op op_pow pe_int pe_int) (pa_cons (pe_op op_sub (pe_un un_neg pe_int) (pv 10)) pa_nil))))) (pss_cons (ps_set (i := 12) nd rfl (Or.inl rfl) (pe_ix (r := rIxL K) ix_list (pv 11) (pe_call G__law_draw (hr.mono (by decide)) rfl g__law_draw k__law_draw b__law_draw .nil pass0 (pa_cons (pv 1) (pa_cons pe_int pa_nil))) (fun _ _ => rfl))) (pss_cons (ps_set (i := 13) nd rfl (Or.inl rfl) (pe_ix (r := rIxL K) ix_list (pv 11) (pe_call G__law_draw (hr.mono (by decide)) rfl g__law_draw k__law_draw b__law_draw .nil pass0 (pa_cons (pv 1) (pa_cons pe_int pa_nil))) (fun _ _ => rfl))) (pss_cons (ps_set (i := 14) nd rfl (Or.inl rfl) (pe_callTy (r := rLs K) call_list_of (by rfl) (fr_list T) (by decide +kernel) (pa_cons (pv 5) pa_nil))) (pss_cons (ps_set (i := 15) nd rfl (Or.inl rfl) (pe_call G__law_draw (hr.mono (by decide)) rfl g__law_draw k__law_draw b__law_draw .nil pass0 (pa_cons (pv 1) (pa_cons (pe_op op_add (pe_callB (r := rLn K) call_len_seq (by rfl) (fr_len T) (by decide +kernel) (pa_cons (pv 14) pa_nil)) pe_int) pa_nil)))) (pss_cons (ps_expr (pe_bm PySem.F.plainAttrs_list PySem.F.slot_list_insert PySem.F.type_list_insert mt_insN (pv 14) (pa_cons (pv 15) (pa_cons (pv 12) pa_nil)))) (pss_cons (ps_expr (pe_bm PySem.F.plainAttrs_list PySem.F.slot_list_insert PySem.F.type_list_insert mt_insN (pv 14) (pa_cons (pe_op op_add (pe_op op_add (pv 15) pe_int) (pe_call G__law_draw (hr.mono (by decide)) rfl g__law_draw k__law_draw b__law_draw .nil pass0 (pa_cons (pv 1) (pa_cons (pe_op op_sub (pe_callB (r := rLn K) call_len_seq (by rfl) (fr_len T) (by decide +kernel) (pa_cons (pv 14) pa_nil)) (pv 15)) pa_nil)))) (pa_cons (pv 13) pa_nil)))) (pss_cons (ps_if (PW.pt (pw_or (pt_cmpR op_notN (pe_call G__law_list_refused (hr.mono (by decide)) rfl g__law_list_refused k__law_list_refused b__law_list_refused .nil pass0 (pa_cons (pv 4) (pa_cons pe_int (pa_cons (pv 5) pa_nil)))) pe_non (nomark _)) (pw_or1 (pt_cmpR op_notN (pe_call G__law_list_refused (hr.mono (by decide)) rfl g__law_list_refused k__law_list_refused b__law_list_refused .nil pass0 (pa_cons (pv 4) (pa_cons pe_int (pa_cons (pv 5) pa_nil)))) pe_non (nomark _))))) (pss_cons (ps_ret pe_bl) pss_nil) pss_nil) (pss_cons (ps_ret (pe_and (pe_cmpR (r := rEqP K) (op_eqP hr.units) (pe_call G__law_list_refused (hr.mono (by decide)) rfl g__law_list_refused k__law_list_refused b__law_list_refused .nil pass0 (pa_cons (pv 4) (pa_cons pe_int (pa_cons (pv 14) pa_nil)))) (pv 12) (nomark _)) (pe_one (pe_cmpR (r := rEqP K) (op_eqP hr.units) (pe_call G__law_list_refused (hr.mono (by decide)) rfl g__law_list_refused k__law_list_refused b__law_list_refused .nil pass0 (pa_cons (pv 4) (pa_cons pe_int (pa_cons (pv 14) pa_nil)))) (pv 12) (nomark _))))) pss_nil))))))))))))))))))))))), ?_⟩
    obtain ⟨pot_here_2229, hx2230, h⟩ := bindS h
    refine x_setL w0 (el_call (ea_cons (e_var (R := (rScr K)) (x := script0) rfl hscript0) ea_nil)) hx2230 ?_
    intro p2233 H2231 G2234 n2235 w2232 e2236
    have h2237 := Rep.mono _ e2236 hscript0
    refine x_setO ?_
    refine o_call ?_
    refine o_cons ?_
    refine o_var rfl ?_
    refine o_cons ?_
    obtain ⟨x2238, hx2239, h⟩ := bindS h
    refine c_i w2232 e_int hx2239 ?_
    intro H2240 w2241
    refine o_nil ?_
    obtain ⟨x2243, hx2244, h⟩ := bindS h
    refine c_p1l (i := 0) (j := (x2238, ())) w2241 rfl ⟨_, _, rfl, rfl, rfl⟩ hx2244 ?_
    intro p2247 H2245 G2248 n2249 w2246 e2250
    have h2251 := Rep.mono _ e2250 h2237
    have w2246 : Wo G H [] G2248 H2245 [(p2247, cL rI x2243.1), (p2233, cL rI x2243.2)] := w2246
    obtain ⟨G2252, w2253, e2254, h2255⟩ := w2246.freezeAt (i := 0) rfl n2249
    have h2256 := Rep.mono _ e2254 h2251
    have w2253 : Wo G H [] G2252 H2245 [(p2233, cL rI x2243.2)] := w2253
    obtain ⟨size_2257, hx2258, h⟩ := bindS h
    refine x_setI w2253 (e_cb rc_lenL (ea_cons (e_var (R := (rL rI)) (x := x2243.1) rfl h2255) ea_nil)) hx2258 ?_
    intro H2259 w2260
    obtain ⟨order_2262, hx2263, h⟩ := bindS h
    refine x_set w2260 (e_make (ea_cons (e_var (R := rI) (x := size_2257) rfl rfl) (ea_cons (EL.e (el_call (ea_cons (e_var (R := (rL rI)) (x := x2243.1) rfl h2255) ea_nil))) ea_nil))) (by first | exact hx2263 | (simp only [Option.bind_eq_bind, Option.bind_some, Option.bind_assoc] at hx2263 ⊢; exact hx2263)) ?_
    intro v2266 H2264 G2267 w2265 e2268 h2269
    have h2270 := Rep.mono _ e2268 h2256
    have h2271 := Rep.mono _ e2268 h2255
    obtain ⟨several_2272, hx2273, h⟩ := bindS h
    refine x_setL w2265 (el_disp (R := rI) eal_nil) hx2273 ?_
    intro p2276 H2274 G2277 n2278 w2275 e2279
    have h2280 := Rep.mono _ e2279 h2270
    have h2281 := Rep.mono _ e2279 h2271
    have h2282 := Rep.mono _ e2279 h2269
    refine o_forR ?_
    refine o_cons ?_
    refine o_call ?_
    refine o_cons ?_
    refine o_var rfl ?_
    refine o_cons ?_
    obtain ⟨x2283, hx2284, h⟩ := bindS h
    refine c_i w2275 e_int hx2284 ?_
    intro H2285 w2286
    refine o_nil ?_
    obtain ⟨x2288, hx2289, h⟩ := bindS h
    refine c_p1 (i := 1) (j := (x2283, ())) w2286 rfl ⟨_, _, rfl, rfl, rfl⟩ hx2289 ?_
    intro u2290 H2291 G2292 w2293 e2294 r2295
    have h2296 := Rep.mono _ e2294 h2280
    have h2297 := Rep.mono _ e2294 h2281
    have h2298 := Rep.mono _ e2294 h2282
    cases r2295
    have w2293 : Wo G H [] G2292 H2291 [(p2276, cL rI several_2272), (p2233, cL rI x2288.2)] := w2293
    refine o_nil ?_
    obtain ⟨xs2300, hx2301, h⟩ := bindS h
    obtain ⟨t2303, hx2304, h⟩ := bindS h
    refine v_forR w2293 hx2301 (fun i G' H' σ' => ∃ s2305 : ((List Int) × (List Int)), ∃ u2306 : Option V, Wo G H [] G' H' [(p2276, cL rI s2305.2), (p2233, cL rI s2305.1)] ∧ Evl.Ex G2292 G' ∧ σ' = [some vscript0, some (V.ref p2233), some (V.ref p2247), some (V.int size_2257), some v2266, some (V.ref p2276), u2306, none, none, none, none, none, none, none, none, none] ∧ forS (m_law_b1 size_2257) (xs2300.drop i) s2305 = some t2303) ?_ ?_ ?_
    · exact ⟨(x2288.2, several_2272), (none), w2293, (Evl.Ex.refl _), rfl, hx2304⟩
    · rintro i2314 x2315 σ' G2310 H2313 hx2316 ⟨s2305, u2306, w2311, e2312, rfl, hm2308⟩
      obtain ⟨q2309, hb2307, hm2308⟩ := forS_at hx2316 hm2308
      have h2317 := Rep.mono _ e2312 h2296
      have h2318 := Rep.mono _ e2312 h2297
      have h2319 := Rep.mono _ e2312 h2298
      refine g_name ?_
      unfold m_law_b1 at hb2307
      refine x_drop ?_
      refine o_bm (j := 0) w2311 rfl rfl ?_
      refine o_cons ?_
      refine o_call ?_
      refine o_cons ?_
      refine o_var rfl ?_
      refine o_cons ?_
      obtain ⟨x2320, hx2321, hb2307⟩ := bindS hb2307
      refine c_i w2311 (e_var (R := rI) (x := size_2257) rfl rfl) hx2321 ?_
      intro H2322 w2323
      refine o_nil ?_
      obtain ⟨x2325, hx2326, hb2307⟩ := bindS hb2307
      refine c_p1 (i := 1) (j := (x2320, ())) w2323 rfl ⟨_, _, rfl, rfl, rfl⟩ hx2326 ?_
      intro u2327 H2328 G2329 w2330 e2331 r2332
      have h2333 := Rep.mono _ e2331 h2317
      have h2334 := Rep.mono _ e2331 h2318
      have h2335 := Rep.mono _ e2331 h2319
      cases r2332
      have w2330 : Wo G H [] G2329 H2328 [(p2276, cL rI s2305.2), (p2233, cL rI x2325.2)] := w2330
      refine o_nil ?_
      obtain ⟨several_2337, hx2338, hb2307⟩ := bindS hb2307
      obtain ⟨hs2341, q2342⟩ := appM_ok hx2338
      subst q2342
      refine c_app (j := 0) w2330 rfl hs2341 rfl ?_
      intro H2339 w2340
      have w2340 : Wo G H [] G2329 H2339 [(p2276, cL rI (s2305.2 ++ [x2325.1])), (p2233, cL rI x2325.2)] := w2340
      refine x_next ?_
      have hb2307 : (x2325.2, (s2305.2 ++ [x2325.1])) = q2309 := Option.some.inj hb2307
      subst hb2307
      exact ⟨G2329, (x2325.2, (s2305.2 ++ [x2325.1])), (some (V.int x2315)), w2340, (e2312.trans e2331), rfl, hm2308⟩
    · rintro σ' G2343 H2346 ⟨s2305, u2306, w2344, e2345, rfl, hm2308⟩
      have hm2308 := forS_end hm2308
      subst hm2308
      have h2348 := Rep.mono _ e2345 h2296
      have h2349 := Rep.mono _ e2345 h2297
      have h2350 := Rep.mono _ e2345 h2298
      obtain ⟨G2351, w2352, e2353, h2354⟩ := w2344.freezeAt (i := 0) rfl n2278
      have h2355 := Rep.mono _ e2353 h2348
      have h2356 := Rep.mono _ e2353 h2349
      have h2357 := Rep.mono _ e2353 h2350
      have w2352 : Wo G H [] G2351 H2346 [(p2233, cL rI s2305.1)] := w2352
      obtain ⟨handed_2358, hx2359, h⟩ := bindS h
      refine x_setL w2352 (el_cb rc_listL (ea_cons (e_var (R := (rL rI)) (x := s2305.2) rfl h2354) ea_nil)) hx2359 ?_
      intro p2362 H2360 G2363 n2364 w2361 e2365
      have h2366 := Rep.mono _ e2365 h2355
      have h2367 := Rep.mono _ e2365 h2356
      have h2368 := Rep.mono _ e2365 h2357
      have h2369 := Rep.mono _ e2365 h2354
      obtain ⟨join_2370, hx2371, h⟩ := bindS h
      refine x_setI w2361 (e_methB (e_var (R := (r_Order K)) (x := order_2262) rfl h2368) (ea_cons (e_var (R := rA) (x := p2362) rfl rfl) ea_nil) (w2361.lent (i := 0) rfl) (by decide +kernel) (fun _ _ h => by cases h; rfl)) hx2371 ?_
      intro H2372 w2373
      obtain ⟨meet_2374, hx2375, h⟩ := bindS h
      refine x_setI w2373 (e_methB (e_var (R := (r_Order K)) (x := order_2262) rfl h2368) (ea_cons (e_var (R := rA) (x := p2362) rfl rfl) ea_nil) (w2373.lent (i := 0) rfl) (by decide +kernel) (fun _ _ h => by cases h; rfl)) hx2375 ?_
      intro H2376 w2377
      obtain ⟨b2380, hx2381, h⟩ := bindS h
      refine x_if w2377 (et_or (et_T (e_op (rr_neD (dtL dtI) (by decide)) (e_var (R := rL rI) (x := handed_2358) rfl (w2377.rlAt (i := 0) rfl)) (e_var (R := (rL rI)) (x := s2305.2) rfl (Rep.mono _ w2377.ex h2369)))) (et_or (et_not (et_B (e_call (ea_cons (e_var (R := (rL rI)) (x := x2243.1) rfl (Rep.mono _ w2377.ex h2367)) (ea_cons (e_var (R := (rL rI)) (x := s2305.2) rfl (Rep.mono _ w2377.ex h2369)) (ea_cons (e_var (R := rI) (x := join_2370) rfl rfl) ea_nil)))))) (et_not (et_B (e_call (ea_cons (e_var (R := (rL rI)) (x := x2243.1) rfl (Rep.mono _ w2377.ex h2367)) (ea_cons (e_var (R := (rL rI)) (x := s2305.2) rfl (Rep.mono _ w2377.ex h2369)) (ea_cons (e_var (R := rI) (x := meet_2374) rfl rfl) ea_nil)))))))) hx2381 ?_ ?_
      · intro hbb2380 H2382 w2383
        subst hbb2380
        obtain ⟨a2384, hx2385, h⟩ := bindS h
        have h : a2384 = r := Option.some.inj h
        subst h
        exact x_ret w2383 e_bl hx2385 (fun v9 H9 G9 w9 e9 r9 => k v9 H9 G9 w9.upE r9)
      · intro hbb2380 H2386 w2387
        subst hbb2380
        refine x_next ?_
        refine x_drop ?_
        obtain ⟨handed_2388, hx2389, h⟩ := bindS h
        cases hx2389
        refine o_bm0 (j := 0) w2387 rfl rfl (c_rev (j := 0) w2387 rfl ?_)
        intro H2390 w2391
        have w2391 : Wo G H [] G2363 H2390 [(p2362, cL rI handed_2358.reverse), (p2233, cL rI s2305.1)] := w2391
        obtain ⟨G2392, w2393, e2394, h2395⟩ := w2391.freezeAt (i := 0) rfl n2364
        have h2396 := Rep.mono _ e2394 h2366
        have h2397 := Rep.mono _ e2394 h2367
        have h2398 := Rep.mono _ e2394 h2368
        have h2399 := Rep.mono _ e2394 h2369
        have w2393 : Wo G H [] G2392 H2390 [(p2233, cL rI s2305.1)] := w2393
        obtain ⟨b2402, hx2403, h⟩ := bindS h
        refine x_if w2393 (et_or (et_T (e_op rr_neI (e_meth (e_var (R := (r_Order K)) (x := order_2262) rfl (Rep.mono _ w2393.ex h2398)) (ea_cons (e_var (R := (rL rI)) (x := handed_2358.reverse) rfl (Rep.mono _ w2393.ex h2395)) ea_nil) (by decide +kernel)) (e_var (R := rI) (x := join_2370) rfl rfl))) (et_T (e_op rr_neI (e_meth (e_var (R := (r_Order K)) (x := order_2262) rfl (Rep.mono _ w2393.ex h2398)) (ea_cons (e_var (R := (rL rI)) (x := handed_2358.reverse) rfl (Rep.mono _ w2393.ex h2395)) ea_nil) (by decide +kernel)) (e_var (R := rI) (x := meet_2374) rfl rfl)))) (by first | exact hx2403 | (simp only [Option.bind_eq_bind, Option.bind_some, Option.bind_assoc] at hx2403 ⊢; exact hx2403)) ?_ ?_
        · intro hbb2402 H2404 w2405
          subst hbb2402
          obtain ⟨a2406, hx2407, h⟩ := bindS h
          have h : a2406 = r := Option.some.inj h
          subst h
          exact x_ret w2405 e_bl hx2407 (fun v9 H9 G9 w9 e9 r9 => k v9 H9 G9 w9.upE r9)
        · intro hbb2402 H2408 w2409
          subst hbb2402
          refine x_next ?_
          obtain ⟨b2414, hx2415, h⟩ := bindS h
          refine x_if w2409 (et_or (et_T (e_op rr_neI (e_meth (e_var (R := (r_Order K)) (x := order_2262) rfl (Rep.mono _ w2409.ex h2398)) (ea_cons (EL.e (el_op rrl_cat (e_var (R := (rL rI)) (x := s2305.2) rfl (Rep.mono _ w2409.ex h2399)) (e_var (R := (rL rI)) (x := handed_2358.reverse) rfl (Rep.mono _ w2409.ex h2395)))) ea_nil) (by decide +kernel)) (e_var (R := rI) (x := join_2370) rfl rfl))) (et_T (e_op rr_neI (e_meth (e_var (R := (r_Order K)) (x := order_2262) rfl (Rep.mono _ w2409.ex h2398)) (ea_cons (EL.e (el_op rrl_cat (e_var (R := (rL rI)) (x := handed_2358.reverse) rfl (Rep.mono _ w2409.ex h2395)) (e_var (R := (rL rI)) (x := s2305.2) rfl (Rep.mono _ w2409.ex h2399)))) ea_nil) (by decide +kernel)) (e_var (R := rI) (x := meet_2374) rfl rfl)))) (by first | exact hx2415 | (simp only [Option.bind_eq_bind, Option.bind_some, Option.bind_assoc] at hx2415 ⊢; exact hx2415)) ?_ ?_
          · intro hbb2414 H2416 w2417
            subst hbb2414
            obtain ⟨a2418, hx2419, h⟩ := bindS h
            have h : a2418 = r := Option.some.inj h
            subst h
            exact x_ret w2417 e_bl hx2419 (fun v9 H9 G9 w9 e9 r9 => k v9 H9 G9 w9.upE r9)
          · intro hbb2414 H2420 w2421
            subst hbb2414
            refine x_next ?_
            refine x_setO ?_
            refine o_call ?_
            refine o_cons ?_
            refine o_var rfl ?_
            refine o_cons ?_
            obtain ⟨x2422, hx2423, h⟩ := bindS h
            refine c_i w2421 e_int hx2423 ?_
            intro H2424 w2425
            refine o_nil ?_
            obtain ⟨x2427, hx2428, h⟩ := bindS h
            refine c_p1 (i := 0) (j := (x2422, ())) w2425 rfl ⟨_, _, rfl, rfl, rfl⟩ hx2428 ?_
            intro u2429 H2430 G2431 w2432 e2433 r2434
            have h2435 := Rep.mono _ e2433 h2396
            have h2436 := Rep.mono _ e2433 h2397
            have h2437 := Rep.mono _ e2433 h2398
            have h2438 := Rep.mono _ e2433 h2399
            have h2439 := Rep.mono _ e2433 h2395
            cases r2434
            have w2432 : Wo G H [] G2431 H2430 [(p2233, cL rI x2427.2)] := w2432
            obtain ⟨bads_2441, hx2442, h⟩ := bindS h
            refine x_set w2432 (EL.e (el_disp (eal_cons (e_op rr_add (e_var (R := rI) (x := size_2257) rfl rfl) (e_var (R := rI) (x := x2427.1) rfl rfl)) (eal_cons (e_op rr_pow e_int e_int) (eal_cons (e_op rr_sub (e_neg e_int) (e_var (R := rI) (x := x2427.1) rfl rfl)) eal_nil))))) (by first | exact hx2442 | (simp only [Option.bind_eq_bind, Option.bind_some, Option.bind_assoc] at hx2442 ⊢; exact hx2442)) ?_
            intro v2445 H2443 G2446 w2444 e2447 h2448
            have h2449 := Rep.mono _ e2447 h2435
            have h2450 := Rep.mono _ e2447 h2436
            have h2451 := Rep.mono _ e2447 h2437
            have h2452 := Rep.mono _ e2447 h2438
            have h2453 := Rep.mono _ e2447 h2439
            refine x_setO ?_
            refine o_op ?_
            obtain ⟨x2454, hx2455, h⟩ := bindS h
            refine c_e w2444 (e_var (R := (rL rI)) (x := bads_2441) rfl h2448) hx2455 ?_
            intro v2458 H2456 G2459 w2457 e2460 h2461
            have h2462 := Rep.mono _ e2460 h2449
            have h2463 := Rep.mono _ e2460 h2450
            have h2464 := Rep.mono _ e2460 h2451
            have h2465 := Rep.mono _ e2460 h2452
            have h2466 := Rep.mono _ e2460 h2453
            have h2467 := Rep.mono _ e2460 h2448
            refine o_call ?_
            refine o_cons ?_
            refine o_var rfl ?_
            refine o_cons ?_
            obtain ⟨x2469, hx2470, h⟩ := bindS h
            refine c_i w2457 e_int hx2470 ?_
            intro H2471 w2472
            refine o_nil ?_
            obtain ⟨x2474, hx2475, h⟩ := bindS h
            refine c_p1 (i := 0) (j := (x2469, ())) w2472 rfl ⟨_, _, rfl, rfl, rfl⟩ hx2475 ?_
            intro u2476 H2477 G2478 w2479 e2480 r2481
            have h2482 := Rep.mono _ e2480 h2462
            have h2483 := Rep.mono _ e2480 h2463
            have h2484 := Rep.mono _ e2480 h2464
            have h2485 := Rep.mono _ e2480 h2465
            have h2486 := Rep.mono _ e2480 h2466
            have h2487 := Rep.mono _ e2480 h2467
            have h2488 := Rep.mono _ e2480 h2461
            cases r2481
            have w2479 : Wo G H [] G2478 H2477 [(p2233, cL rI x2474.2)] := w2479
            obtain ⟨x2489, hx2490, h⟩ := bindS h
            refine c_rr rr_ixL w2479 h2488 rfl hx2490 ?_
            intro u2491 H2492 G2493 w2494 e2495 r2496
            have h2497 := Rep.mono _ e2495 h2482
            have h2498 := Rep.mono _ e2495 h2483
            have h2499 := Rep.mono _ e2495 h2484
            have h2500 := Rep.mono _ e2495 h2485
            have h2501 := Rep.mono _ e2495 h2486
            have h2502 := Rep.mono _ e2495 h2487
            have h2503 := Rep.mono _ e2495 h2488
            cases r2496
            refine x_setO ?_
            refine o_op ?_
            obtain ⟨x2504, hx2505, h⟩ := bindS h
            refine c_e w2494 (e_var (R := (rL rI)) (x := bads_2441) rfl h2502) hx2505 ?_
            intro v2508 H2506 G2509 w2507 e2510 h2511
            have h2512 := Rep.mono _ e2510 h2497
            have h2513 := Rep.mono _ e2510 h2498
            have h2514 := Rep.mono _ e2510 h2499
            have h2515 := Rep.mono _ e2510 h2500
            have h2516 := Rep.mono _ e2510 h2501
            have h2517 := Rep.mono _ e2510 h2502
            refine o_call ?_
            refine o_cons ?_
            refine o_var rfl ?_
            refine o_cons ?_
            obtain ⟨x2519, hx2520, h⟩ := bindS h
            refine c_i w2507 e_int hx2520 ?_
            intro H2521 w2522
            refine o_nil ?_
            obtain ⟨x2524, hx2525, h⟩ := bindS h
            refine c_p1 (i := 0) (j := (x2519, ())) w2522 rfl ⟨_, _, rfl, rfl, rfl⟩ hx2525 ?_
            intro u2526 H2527 G2528 w2529 e2530 r2531
            have h2532 := Rep.mono _ e2530 h2512
            have h2533 := Rep.mono _ e2530 h2513
            have h2534 := Rep.mono _ e2530 h2514
            have h2535 := Rep.mono _ e2530 h2515
            have h2536 := Rep.mono _ e2530 h2516
            have h2537 := Rep.mono _ e2530 h2517
            have h2538 := Rep.mono _ e2530 h2511
            cases r2531
            have w2529 : Wo G H [] G2528 H2527 [(p2233, cL rI x2524.2)] := w2529
            obtain ⟨x2539, hx2540, h⟩ := bindS h
            refine c_rr rr_ixL w2529 h2538 rfl hx2540 ?_
            intro u2541 H2542 G2543 w2544 e2545 r2546
            have h2547 := Rep.mono _ e2545 h2532
            have h2548 := Rep.mono _ e2545 h2533
            have h2549 := Rep.mono _ e2545 h2534
            have h2550 := Rep.mono _ e2545 h2535
            have h2551 := Rep.mono _ e2545 h2536
            have h2552 := Rep.mono _ e2545 h2537
            have h2553 := Rep.mono _ e2545 h2538
            cases r2546
            obtain ⟨spoilt_2554, hx2555, h⟩ := bindS h
            refine x_setL w2544 (el_cb rc_listL (ea_cons (e_var (R := (rL rI)) (x := s2305.2) rfl h2550) ea_nil)) hx2555 ?_
            intro p2558 H2556 G2559 n2560 w2557 e2561
            have h2562 := Rep.mono _ e2561 h2547
            have h2563 := Rep.mono _ e2561 h2548
            have h2564 := Rep.mono _ e2561 h2549
            have h2565 := Rep.mono _ e2561 h2550
            have h2566 := Rep.mono _ e2561 h2551
            have h2567 := Rep.mono _ e2561 h2552
            refine x_setO ?_
            refine o_call ?_
            refine o_cons ?_
            refine o_var rfl ?_
            refine o_cons ?_
            obtain ⟨x2568, hx2569, h⟩ := bindS h
            refine c_i w2557 (Sim.E.s scI (e_op rr_add (e_cb rc_lenL (ea_cons (e_var (R := rL rI) (x := spoilt_2554) rfl (w2557.rlAt (i := 0) rfl)) ea_nil)) e_int)) hx2569 ?_
            intro H2570 w2571
            refine o_nil ?_
            obtain ⟨x2573, hx2574, h⟩ := bindS h
            refine c_p1 (i := 1) (j := (x2568, ())) w2571 rfl ⟨_, _, rfl, rfl, rfl⟩ hx2574 ?_
            intro u2575 H2576 G2577 w2578 e2579 r2580
            have h2581 := Rep.mono _ e2579 h2562
            have h2582 := Rep.mono _ e2579 h2563
            have h2583 := Rep.mono _ e2579 h2564
            have h2584 := Rep.mono _ e2579 h2565
            have h2585 := Rep.mono _ e2579 h2566
            have h2586 := Rep.mono _ e2579 h2567
            cases r2580
            have w2578 : Wo G H [] G2577 H2576 [(p2558, cL rI spoilt_2554), (p2233, cL rI x2573.2)] := w2578
            refine x_drop ?_
            refine o_bm (j := 0) w2578 rfl rfl ?_
            refine o_cons ?_
            obtain ⟨x2587, hx2588, h⟩ := bindS h
            refine c_i w2578 (e_var (R := rI) (x := x2573.1) rfl rfl) hx2588 ?_
            intro H2589 w2590
            refine o_cons ?_
            obtain ⟨x2592, hx2593, h⟩ := bindS h
            refine c_i w2590 (e_var (R := rI) (x := x2489) rfl rfl) hx2593 ?_
            intro H2594 w2595
            refine o_nil ?_
            obtain ⟨spoilt_2597, hx2598, h⟩ := bindS h
            refine c_ins (j := 0) w2595 rfl rfl hx2598 ?_
            intro H2599 w2600
            have w2600 : Wo G H [] G2577 H2599 [(p2558, cL rI spoilt_2597), (p2233, cL rI x2573.2)] := w2600
            refine x_drop ?_
            refine o_bm (j := 0) w2600 rfl rfl ?_
            refine o_cons ?_
            refine o_op ?_
            obtain ⟨x2601, hx2602, h⟩ := bindS h
            refine c_i w2600 (e_op rr_add (e_var (R := rI) (x := x2573.1) rfl rfl) e_int) hx2602 ?_
            intro H2603 w2604
            refine o_call ?_
            refine o_cons ?_
            refine o_var rfl ?_
            refine o_cons ?_
            obtain ⟨x2606, hx2607, h⟩ := bindS h
            refine c_i w2604 (Sim.E.s scI (e_op rr_sub (e_cb rc_lenL (ea_cons (e_var (R := rL rI) (x := spoilt_2597) rfl (w2604.rlAt (i := 0) rfl)) ea_nil)) (e_var (R := rI) (x := x2573.1) rfl rfl))) hx2607 ?_
            intro H2608 w2609
            refine o_nil ?_
            obtain ⟨x2611, hx2612, h⟩ := bindS h
            refine c_p1 (i := 1) (j := (x2606, ())) w2609 rfl ⟨_, _, rfl, rfl, rfl⟩ hx2612 ?_
            intro u2613 H2614 G2615 w2616 e2617 r2618
            have h2619 := Rep.mono _ e2617 h2581
            have h2620 := Rep.mono _ e2617 h2582
            have h2621 := Rep.mono _ e2617 h2583
            have h2622 := Rep.mono _ e2617 h2584
            have h2623 := Rep.mono _ e2617 h2585
            have h2624 := Rep.mono _ e2617 h2586
            cases r2618
            have w2616 : Wo G H [] G2615 H2614 [(p2558, cL rI spoilt_2597), (p2233, cL rI x2611.2)] := w2616
            obtain ⟨x2625, hx2626, h⟩ := bindS h
            refine c_rr rr_add w2616 rfl rfl hx2626 ?_
            intro u2627 H2628 G2629 w2630 e2631 r2632
            have h2633 := Rep.mono _ e2631 h2619
            have h2634 := Rep.mono _ e2631 h2620
            have h2635 := Rep.mono _ e2631 h2621
            have h2636 := Rep.mono _ e2631 h2622
            have h2637 := Rep.mono _ e2631 h2623
            have h2638 := Rep.mono _ e2631 h2624
            cases r2632
            refine o_cons ?_
            obtain ⟨x2640, hx2641, h⟩ := bindS h
            refine c_i w2630 (e_var (R := rI) (x := x2539) rfl rfl) hx2641 ?_
            intro H2642 w2643
            refine o_nil ?_
            obtain ⟨spoilt_2645, hx2646, h⟩ := bindS h
            refine c_ins (j := 0) w2643 rfl rfl hx2646 ?_
            intro H2647 w2648
            have w2648 : Wo G H [] G2629 H2647 [(p2558, cL rI spoilt_2645), (p2233, cL rI x2611.2)] := w2648
            obtain ⟨b2651, hx2652, h⟩ := bindS h
            refine x_if w2648 (et_or (et_T (e_op (rr_notN nnI) (e_call (ea_cons (e_var (R := (r_Order K)) (x := order_2262) rfl (Rep.mono _ w2648.ex h2635)) (ea_cons e_int (ea_cons (e_var (R := (rL rI)) (x := s2305.2) rfl (Rep.mono _ w2648.ex h2636)) ea_nil)))) e_non)) (et_T (e_op (rr_notN nnI) (e_call (ea_cons (e_var (R := (r_Order K)) (x := order_2262) rfl (Rep.mono _ w2648.ex h2635)) (ea_cons e_int (ea_cons (e_var (R := (rL rI)) (x := s2305.2) rfl (Rep.mono _ w2648.ex h2636)) ea_nil)))) e_non))) (by first | exact hx2652 | (simp only [Option.bind_eq_bind, Option.bind_some, Option.bind_assoc] at hx2652 ⊢; exact hx2652)) ?_ ?_
            · intro hbb2651 H2653 w2654
              subst hbb2651
              obtain ⟨a2655, hx2656, h⟩ := bindS h
              have h : a2655 = r := Option.some.inj h
              subst h
              exact x_ret w2654 e_bl hx2656 (fun v9 H9 G9 w9 e9 r9 => k v9 H9 G9 w9.upE r9)
            · intro hbb2651 H2657 w2658
              subst hbb2651
              refine x_next ?_
              obtain ⟨G2659, w2660, e2661, h2662⟩ := w2658.freezeAt (i := 0) rfl n2560
              have h2663 := Rep.mono _ e2661 h2633
              have h2664 := Rep.mono _ e2661 h2634
              have h2665 := Rep.mono _ e2661 h2635
              have h2666 := Rep.mono _ e2661 h2636
              have h2667 := Rep.mono _ e2661 h2637
              have h2668 := Rep.mono _ e2661 h2638
              have w2660 : Wo G H [] G2659 H2657 [(p2233, cL rI x2611.2)] := w2660
              obtain ⟨a2671, hx2672, h⟩ := bindS h
              have h : a2671 = r := Option.some.inj h
              subst h
              exact x_ret w2660 (e_andV (e_op (rr_eqD (dtO dtI) (by decide)) (e_call (ea_cons (e_var (R := (r_Order K)) (x := order_2262) rfl h2665) (ea_cons e_int (ea_cons (e_var (R := (rL rI)) (x := spoilt_2645) rfl h2662) ea_nil)))) (e_some (e_var (R := rI) (x := x2489) rfl rfl))) (e_op (rr_eqD (dtO dtI) (by decide)) (e_call (ea_cons (e_var (R := (r_Order K)) (x := order_2262) rfl h2665) (ea_cons e_int (ea_cons (e_var (R := (rL rI)) (x := spoilt_2645) rfl h2662) ea_nil)))) (e_some (e_var (R := rI) (x := x2489) rfl rfl)))) (by first | exact hx2672 | (simp only [Option.bind_eq_bind, Option.bind_some, Option.bind_assoc] at hx2672 ⊢; exact hx2672)) (fun v9 H9 G9 w9 e9 r9 => k v9 H9 G9 w9.upE r9)
end
end My
namespace My
open PySem L2 Sim
section
variable {α β γ σ ρ : Type}
theorem bs {a : α} {f : α → Option β} : Option.bind (some a) f = f a := Eq.trans (Option.bind_some a f) (Eq.refl _)
def tab (n : Nat) (f : Nat → α) : List α := (List.range n).map f
theorem tab_len {n : Nat} {f : Nat → α} : (tab n f).length = n := by simp [tab]
theorem tab_get {n : Nat} {f : Nat → α} {i : Nat} (h : i < n) : (tab n f)[i]? = some (f i) := by
  simp [tab, List.getElem?_map, List.getElem?_range h]
theorem tab_mem {n : Nat} {f : Nat → α} {x : α} : x ∈ tab n f ↔ ∃ i, i < n ∧ f i = x := by simp [tab]
theorem tab_congr {n : Nat} {f g : Nat → α} (h : ∀ i < n, f i = g i) : tab n f = tab n g :=
  List.map_congr_left fun i hi => h i (List.mem_range.mp hi)
theorem ixN_nat {n i : Nat} (h : i < n) : ixN n (i : Int) = some i := by
  unfold ixN
  rw [if_pos (by omega), if_pos (by omega)]
  rfl
theorem atI_nat {xs : List α} {i : Nat} (h : i < xs.length) : atI xs (i : Int) = some xs[i] := by
  unfold atI
  rw [ixN_nat h]
  exact List.getElem?_eq_getElem h
theorem atI_tab {n : Nat} {f : Nat → α} {i : Nat} (h : i < n) : atI (tab n f) (i : Int) = some (f i) := by
  unfold atI
  rw [ixN_nat (by rw [tab_len]; exact h)]
  exact tab_get h
theorem rngM0 {n : Nat} (h : n ≤ 100000) : rngM 0 (n : Int) = some (tab n fun i => (i : Int)) := by
  unfold rngM
  rw [if_pos (by omega)]
  unfold rng tab
  simp
theorem rngM1 {i n : Nat} (h : n ≤ 100000) (h' : i ≤ 100000) : rngM ((i : Int)) (n : Int) = some (tab (n - i) fun k => ((i + k : Nat) : Int)) := by
  unfold rngM
  rw [if_pos (by omega)]
  unfold rng tab
  have : ((n : Int) - (i : Int)).toNat = n - i := by omega
  rw [this]
  simp
theorem mapO_map {f : β → Option γ} {a : α → β} {g : α → γ} : ∀ {xs : List α}, (∀ x ∈ xs, f (a x) = some (g x)) → mapO f (xs.map a) = some (xs.map g)
  | [], _ => rfl
  | x :: xs, h => by
    show (f (a x) >>= fun y => mapO f (xs.map a) >>= fun ys => some (y :: ys)) = _
    rw [h x (List.mem_cons_self ..), mapO_map (fun y hy => h y (List.mem_cons_of_mem _ hy))]
    rfl
theorem lcM_map {p' : β → Option Bool} {f : β → Option γ} {a : α → β} {p : α → Bool} {g : α → γ} : ∀ {xs : List α}, (∀ x ∈ xs, p' (a x) = some (p x)) → (∀ x ∈ xs, f (a x) = some (g x)) →
    lcM p' f (xs.map a) = some ((xs.filter p).map g)
  | [], _, _ => rfl
  | x :: xs, h, h' => by
    show (p' (a x) >>= fun b => bif b then f (a x) >>= fun y => lcM p' f (xs.map a) >>= fun ys => some (y :: ys) else lcM p' f (xs.map a)) = _
    rw [h x (List.mem_cons_self ..), lcM_map (fun y hy => h y (List.mem_cons_of_mem _ hy)) (fun y hy => h' y (List.mem_cons_of_mem _ hy)), h' x (List.mem_cons_self ..)]
    cases e : p x <;> simp [List.filter_cons, e]
theorem sz_t {n : Nat} (h : n < 100000) : sz n = true := by simp [sz, h]
theorem mapS_tab {n : Nat} {a : Nat → β} {f : β → Option γ} {g : Nat → γ} (hn : n < 100000) (h : ∀ i < n, f (a i) = some (g i)) : mapS f (tab n a) = some (tab n g) := by
  unfold mapS
  rw [tab_len, sz_t hn]
  exact mapO_map fun x hx => h x (List.mem_range.mp hx)
theorem mapS_map {xs : List α} {f : α → Option β} {g : α → β} (hn : xs.length < 100000) (h : ∀ x ∈ xs, f x = some (g x)) : mapS f xs = some (xs.map g) := by
  unfold mapS
  rw [sz_t hn]
  have := mapO_map (f := f) (a := id) (g := g) (xs := xs) h
  rwa [List.map_id] at this
theorem lcS_tab {n : Nat} {a : Nat → β} {p' : β → Option Bool} {f : β → Option γ} {p : Nat → Bool} {g : Nat → γ} (hn : n < 100000) (h : ∀ i < n, p' (a i) = some (p i)) (h' : ∀ i < n, f (a i) = some (g i)) :
    lcS p' f (tab n a) = some (((List.range n).filter p).map g) := by
  unfold lcS
  rw [tab_len, sz_t hn]
  exact lcM_map (fun x hx => h x (List.mem_range.mp hx)) (fun x hx => h' x (List.mem_range.mp hx))
theorem lcS_map {xs : List α} {a : α → β} {p' : β → Option Bool} {f : β → Option γ} {p : α → Bool} {g : α → γ} (hn : xs.length < 100000) (h : ∀ x ∈ xs, p' (a x) = some (p x)) (h' : ∀ x ∈ xs, f (a x) = some (g x)) :
    lcS p' f (xs.map a) = some ((xs.filter p).map g) := by
  unfold lcS
  rw [List.length_map, sz_t hn]
  exact lcM_map h h'
theorem forL_nx {body : α → Unit → Option (Stp Unit ρ)} : ∀ {xs : List α}, (∀ x ∈ xs, body x () = some (.nx ())) → forL body xs () = some (.inl ())
  | [], _ => rfl
  | x :: xs, h => by
    show (body x () >>= stpK (forL body xs)) = _
    rw [h x (List.mem_cons_self ..)]
    exact forL_nx fun y hy => h y (List.mem_cons_of_mem _ hy)
theorem forL_nxT {body : α → Unit → Option (Stp Unit ρ)} {n : Nat} {a : Nat → α} (h : ∀ i < n, body (a i) () = some (.nx ())) : forL body (tab n a) () = some (.inl ()) :=
  forL_nx fun x hx => by obtain ⟨i, hi, rfl⟩ := tab_mem.mp hx; exact h i hi
theorem forL_find {body : β → Unit → Option (Stp Unit ρ)} {a : α → β} {p : α → Bool} {g : α → ρ} : ∀ {xs : List α}, (∀ x ∈ xs, body (a x) () = some (bif p x then .rt (g x) else .nx ())) →
    forL body (xs.map a) () = some (match xs.find? p with | some x => .inr (g x) | none => .inl ())
  | [], _ => rfl
  | x :: xs, h => by
    show (body (a x) () >>= stpK (forL body (xs.map a))) = _
    rw [h x (List.mem_cons_self ..)]
    cases e : p x
    · rw [List.find?_cons, e]
      exact forL_find fun y hy => h y (List.mem_cons_of_mem _ hy)
    · rw [List.find?_cons, e]; rfl
theorem forS_un {body : α → Unit → Option Unit} : ∀ {xs : List α}, (∀ x ∈ xs, body x () = some ()) → forS body xs () = some ()
  | [], _ => rfl
  | x :: xs, h => by
    show (body x () >>= forS body xs) = _
    rw [h x (List.mem_cons_self ..)]
    exact forS_un fun y hy => h y (List.mem_cons_of_mem _ hy)
/-- a loop that keeps something -/
theorem forS_keep {body : α → σ → Option σ} {I : Nat → σ → Prop} : ∀ {xs : List α} {k : Nat} {s : σ}, I k s → (∀ x ∈ xs, ∀ j s, k ≤ j → j < k + xs.length → I j s → ∃ s', body x s = some s' ∧ I (j + 1) s') →
    ∃ s', forS body xs s = some s' ∧ I (k + xs.length) s'
  | [], k, s, h, _ => ⟨s, rfl, h⟩
  | x :: xs, k, s, h, hs => by
    obtain ⟨s1, e1, h1⟩ := hs x (List.mem_cons_self ..) k s (Nat.le_refl _) (by simp) h
    obtain ⟨s2, e2, h2⟩ := forS_keep (xs := xs) (k := k + 1) h1 fun y hy j t hj hj' => hs y (List.mem_cons_of_mem _ hy) j t (by omega) (by simp; omega)
    refine ⟨s2, ?_, ?_⟩
    · show (body x s >>= forS body xs) = _
      rw [e1]; exact e2
    · have : k + (x :: xs).length = k + 1 + xs.length := by simp; omega
      rw [this]; exact h2
/-- a loop whose k-th state is told -/
theorem forS_tab {body : α → σ → Option σ} {a : Nat → α} {S : Nat → σ} {n : Nat} (h : ∀ i < n, body (a i) (S i) = some (S (i + 1))) : forS body (tab n a) (S 0) = some (S n) := by
  suffices h' : ∀ m k, k + m = n → forS body ((List.range' k m).map a) (S k) = some (S n) by
    have := h' n 0 (by omega)
    rw [← List.range_eq_range'] at this
    exact this
  intro m
  induction m with
  | zero => intro k hk; have : k = n := by omega
            subst this; rfl
  | succ m ih =>
    intro k hk
    show (body (a k) (S k) >>= forS body ((List.range' (k + 1) m).map a)) = _
    rw [h k (by omega)]
    exact ih (k + 1) (by omega)
end

abbrev tab2 (n : Nat) (R : Nat → Nat → α) : List (List α) := tab n fun a => tab n fun b => R a b
theorem atI2 {n : Nat} {R : Nat → Nat → α} {a b : Nat} (ha : a < n) (hb : b < n) : (atI (tab2 n R) (a : Int) >>= fun t => atI t (b : Int)) = some (R a b) := by
  rw [atI_tab ha]
  exact atI_tab hb
theorem tab2_congr {n : Nat} {R S : Nat → Nat → α} (h : ∀ a < n, ∀ b < n, R a b = S a b) : tab2 n R = tab2 n S :=
  tab_congr fun a ha => tab_congr fun b hb => h a ha b hb
theorem mul_small {a b : Nat} (ha : a ≤ 12) : mulM (a : Int) (b : Int) = some (((a * b : Nat)) : Int) := by
  unfold mulM
  rw [if_pos (Or.inl (by omega))]
  simp
/-- the pairs lie below n -/
def InR (n : Nat) (ps : List (Int × Int)) : Prop := ∀ p ∈ ps, ∃ a b : Nat, a < n ∧ b < n ∧ p = ((a : Int), (b : Int))
theorem InR.tail {n : Nat} {p} {ps : List (Int × Int)} (h : InR n (p :: ps)) : InR n ps := fun q hq => h q (List.mem_cons_of_mem _ hq)
theorem ix_lt {n a b : Nat} (ha : a < n) (hb : b < n) : a * n + b < n * n := by
  have : (a + 1) * n ≤ n * n := Nat.mul_le_mul_right n ha
  rw [Nat.succ_mul] at this
  omega
theorem ix_inj {n a b c d : Nat} (hb : b < n) (hd : d < n) (h : a * n + b = c * n + d) : a = c ∧ b = d := by
  have e : (a * n + b) / n = (c * n + d) / n := by rw [h]
  have e2 : (a * n + b) % n = (c * n + d) % n := by rw [h]
  rw [Nat.mul_comm a n, Nat.mul_comm c n, Nat.mul_add_div (by omega), Nat.mul_add_div (by omega), Nat.div_eq_of_lt hb, Nat.div_eq_of_lt hd] at e
  rw [Nat.mul_comm a n, Nat.mul_comm c n, Nat.mul_add_mod, Nat.mul_add_mod, Nat.mod_eq_of_lt hb, Nat.mod_eq_of_lt hd] at e2
  exact ⟨by omega, e2⟩
theorem cl_b1 {n : Nat} (hn : n ≤ 12) : ∀ {ps : List (Int × Int)} {s : List Bool} {D : Nat → Nat → Bool}, InR n ps → s.length = n * n → (∀ a < n, ∀ b < n, s[a * n + b]? = some (D a b)) →
    ∃ s', forS (m_closure_b1 (n : Int)) ps s = some s' ∧ s'.length = n * n ∧ ∀ a < n, ∀ b < n, s'[a * n + b]? = some (D a b || decide (((a : Int), (b : Int)) ∈ ps))
  | [], s, D, _, hl, hs => ⟨s, rfl, hl, fun a ha b hb => by simp [hs a ha b hb]⟩
  | p :: ps, s, D, hp, hl, hs => by
    obtain ⟨c, d, hc, hd, rfl⟩ := hp _ (List.mem_cons_self ..)
    have e1 : m_closure_b1 (n : Int) ((c : Int), (d : Int)) s = some (s.set (c * n + d) true) := by
      simp only [m_closure_b1, mul_small (show c ≤ 12 by omega), Option.bind_eq_bind, Option.bind_some]
      rw [show ((c * n : Nat) : Int) + (d : Int) = ((c * n + d : Nat) : Int) by simp]
      unfold setM
      rw [ixN_nat (by rw [hl]; exact ix_lt hc hd)]
      rfl
    obtain ⟨s', e2, h1, h2⟩ := cl_b1 hn (ps := ps) (s := s.set (c * n + d) true) (D := fun a b => D a b || decide (((a : Int), (b : Int)) = ((c : Int), (d : Int)))) hp.tail (by rw [List.length_set]; exact hl) (by
      intro a ha b hb
      rw [List.getElem?_set]
      by_cases e : c * n + d = a * n + b
      · obtain ⟨h1, h2⟩ := ix_inj hd hb e
        subst h1; subst h2
        simp [hl, ix_lt hc hd]
      · rw [if_neg e, hs a ha b hb]
        have : ¬ (((a : Int), (b : Int)) = ((c : Int), (d : Int))) := by
          intro q
          rw [Prod.mk.injEq] at q
          apply e
          rw [show a = c by omega, show b = d by omega]
        simp [this])
    refine ⟨s', ?_, h1, fun a ha b hb => ?_⟩
    · show (m_closure_b1 (n : Int) ((c : Int), (d : Int)) s >>= forS (m_closure_b1 (n : Int)) ps) = _
      rw [e1]; exact e2
    · rw [h2 a ha b hb]
      simp [List.mem_cons, Bool.or_assoc]
def wst (m : Nat) (R : Nat → Nat → Bool) (a b : Nat) : Bool := R a b || (R a m && R m b)
def wsh (R : Nat → Nat → Bool) : Nat → Nat → Nat → Bool
  | 0 => R
  | k + 1 => wst k (wsh R k)
theorem cl_b2 {n m : Nat} {R : Nat → Nat → Bool} (hn : n ≤ 12) (hm : m < n) : m_closure_b2 (n : Int) (m : Int) (tab2 n R) = some (tab2 n (wst m R)) := by
  unfold m_closure_b2
  rw [rngM0 (by omega)]
  simp only [Option.bind_eq_bind, Option.bind_some]
  rw [mapS_tab (g := fun a => tab n fun b => wst m R a b) (by omega)]
  · rfl
  · intro a ha
    rw [mapS_tab (g := fun b => wst m R a b) (by omega)]
    intro b hb
    have h1 := atI2 (R := R) ha hb
    have h2 := atI2 (R := R) ha hm
    have h3 := atI2 (R := R) hm hb
    simp only [Option.bind_eq_bind] at h1 h2 h3
    rw [h1, h2, h3]
    unfold orO andO wst
    cases R a b <;> cases R a m <;> rfl
theorem m_closure_eq {n : Nat} {ps : List (Int × Int)} (hn : n ≤ 12) (hp : InR n ps) :
    m_closure (n : Int) ps = some (tab2 n (wsh (fun a b => a == b || decide (((a : Int), (b : Int)) ∈ ps)) n)) := by
  unfold m_closure
  rw [mul_small hn]
  simp only [Option.bind_eq_bind, Option.bind_some]
  have hnn : n * n ≤ 144 := Nat.mul_le_mul hn hn
  rw [rngM0 (by omega)]
  simp only [Option.bind_some]
  rw [mapS_tab (f := fun _ => some false) (g := fun _ => false) (by omega) (fun _ _ => rfl)]
  simp only [Option.bind_some]
  obtain ⟨s, e, h1, h2⟩ := cl_b1 hn (s := tab (n * n) fun _ => false) (D := fun _ _ => false) hp tab_len (fun a ha b hb => tab_get (ix_lt ha hb))
  rw [e]
  simp only [Option.bind_some]
  rw [rngM0 (by omega)]
  simp only [Option.bind_some]
  rw [mapS_tab (g := fun a => tab n fun b => (a == b || decide (((a : Int), (b : Int)) ∈ ps))) (by omega)]
  · simp only [Option.bind_some]
    have hf := forS_tab (body := m_closure_b2 (n : Int)) (a := fun i : Nat => (i : Int)) (n := n) (S := fun k => tab2 n (wsh (fun a b => a == b || decide (((a : Int), (b : Int)) ∈ ps)) k)) (fun i hi => cl_b2 hn hi)
    exact congrArg (fun z => z.bind some) hf
  · intro a ha
    rw [mapS_tab (g := fun b => (a == b || decide (((a : Int), (b : Int)) ∈ ps))) (by omega)]
    intro b hb
    rw [mul_small (by omega)]
    simp only [Option.bind_some]
    rw [show ((a * n : Nat) : Int) + (b : Int) = ((a * n + b : Nat) : Int) by simp]
    have : atI s ((a * n + b : Nat) : Int) = some (decide (((a : Int), (b : Int)) ∈ ps)) := by
      unfold atI
      rw [ixN_nat (by rw [h1]; exact ix_lt ha hb)]
      have := h2 a ha b hb
      simpa using this
    rw [this]
    unfold orO
    by_cases e : a = b
    · subst e; simp
    · have : ((a : Int) == (b : Int)) = false := by simp; omega
      rw [this]; simp [e]

/-! ### Warshall -/
theorem wsh_mono {R : Nat → Nat → Bool} {a b : Nat} : ∀ {k}, R a b = true → wsh R k a b = true
  | 0, h => h
  | k + 1, h => by
    show wst k (wsh R k) a b = true
    unfold wst
    rw [wsh_mono (k := k) h]
    rfl
theorem wsh_inv {R : Nat → Nat → Bool} : ∀ {k m a b}, m < k → wsh R k a m = true → wsh R k m b = true → wsh R k a b = true
  | k + 1, m, a, b, hm, h1, h2 => by
    have h1 : (wsh R k a m || (wsh R k a k && wsh R k k m)) = true := h1
    have h2 : (wsh R k m b || (wsh R k m k && wsh R k k b)) = true := h2
    show (wsh R k a b || (wsh R k a k && wsh R k k b)) = true
    simp only [Bool.or_eq_true, Bool.and_eq_true] at h1 h2 ⊢
    by_cases e : m = k
    · subst e
      rcases h1 with h1 | h1 <;> rcases h2 with h2 | h2 <;> simp_all
    · have hk : m < k := by omega
      have I := fun {a b : Nat} => wsh_inv (R := R) (k := k) (m := m) (a := a) (b := b) hk
      rcases h1 with h1 | ⟨h1, h1'⟩
      · rcases h2 with h2 | ⟨h2, h2'⟩
        · exact Or.inl (I h1 h2)
        · exact Or.inr ⟨I h1 h2, h2'⟩
      · rcases h2 with h2 | ⟨h2, h2'⟩
        · exact Or.inr ⟨h1, I h1' h2⟩
        · exact Or.inr ⟨h1, h2'⟩
theorem wsh_sound {R : Nat → Nat → Bool} {S : Nat → Nat → Prop} {n : Nat} (ht : ∀ a b c, a < n → b < n → c < n → S a b → S b c → S a c) (hR : ∀ a b, a < n → b < n → R a b = true → S a b) :
    ∀ {k a b}, k ≤ n → a < n → b < n → wsh R k a b = true → S a b
  | 0, a, b, _, ha, hb, h => hR a b ha hb h
  | k + 1, a, b, hk, ha, hb, h => by
    have h : (wsh R k a b || (wsh R k a k && wsh R k k b)) = true := h
    simp only [Bool.or_eq_true, Bool.and_eq_true] at h
    have I := fun {a b : Nat} => wsh_sound (S := S) ht hR (k := k) (a := a) (b := b) (by omega)
    rcases h with h | ⟨h, h'⟩
    · exact I ha hb h
    · exact ht a k b ha (by omega) hb (I ha (by omega) h) (I (by omega) hb h')

/-- an order on the places below n, told by pairs -/
structure Ord (n : Nat) (le : Nat → Nat → Bool) : Prop where
  rf : ∀ a, a < n → le a a = true
  an : ∀ a b, a < n → b < n → le a b = true → le b a = true → a = b
  tr : ∀ a b c, a < n → b < n → c < n → le a b = true → le b c = true → le a c = true
/-- the pairs tell the order -/
structure Gens (n : Nat) (le : Nat → Nat → Bool) (ps : List (Int × Int)) : Prop where
  rg : InR n ps
  sd : ∀ a b, a < n → b < n → ((a : Int), (b : Int)) ∈ ps → le a b = true
  gn : ∀ S : Nat → Nat → Prop, (∀ a, a < n → S a a) → (∀ a b c, a < n → b < n → c < n → S a b → S b c → S a c) → (∀ a b, a < n → b < n → ((a : Int), (b : Int)) ∈ ps → S a b) → ∀ a b, a < n → b < n → le a b = true → S a b
theorem closure_le {n : Nat} {le : Nat → Nat → Bool} {ps : List (Int × Int)} (hn : n ≤ 12) (o : Ord n le) (g : Gens n le ps) : m_closure (n : Int) ps = some (tab2 n le) := by
  rw [m_closure_eq hn g.rg]
  congr 1
  refine tab2_congr fun a ha b hb => ?_
  cases e : le a b with
  | true =>
    refine g.gn (fun a b => wsh (fun a b => a == b || decide (((a : Int), (b : Int)) ∈ ps)) n a b = true) (fun a ha => wsh_mono (by simp)) (fun a b c ha hb hc h1 h2 => wsh_inv hb h1 h2) (fun a b ha hb h => wsh_mono (by simp [h])) a b ha hb e
  | false =>
    cases e2 : wsh (fun a b => a == b || decide (((a : Int), (b : Int)) ∈ ps)) n a b with
    | false => rfl
    | true =>
      have := wsh_sound (S := fun a b => le a b = true) (n := n) o.tr (fun a b ha hb h => by
        simp only [Bool.or_eq_true, decide_eq_true_eq, beq_iff_eq] at h
        rcases h with h | h
        · subst h; exact o.rf a ha
        · exact g.sd a b ha hb h) (Nat.le_refl n) ha hb e2
      rw [e] at this
      cases this
/-- every two have a least above -/
structure Lub (n : Nat) (le : Nat → Nat → Bool) (j : Nat → Nat → Nat) : Prop where
  lt : ∀ a b, a < n → b < n → j a b < n
  l : ∀ a b, a < n → b < n → le a (j a b) = true
  r : ∀ a b, a < n → b < n → le b (j a b) = true
  le : ∀ a b c, a < n → b < n → c < n → le a c = true → le b c = true → le (j a b) c = true
theorem least_above_eq {n : Nat} {le : Nat → Nat → Bool} {j : Nat → Nat → Nat} (hn : n ≤ 12) (o : Ord n le) (L : Lub n le j) {a b : Nat} (ha : a < n) (hb : b < n) :
    m_least_above (tab2 n le) (a : Int) (b : Int) = some (some ((j a b : Nat) : Int)) := by
  unfold m_least_above
  rw [tab_len, rngM0 (by omega)]
  simp only [Option.bind_eq_bind, Option.bind_some]
  rw [lcS_tab (p := fun c => le a c && le b c) (g := fun c => (c : Int)) (by omega) ?h1 (fun _ _ => rfl)]
  case h1 =>
    intro c hc
    have h1 := atI2 (R := le) ha hc
    have h2 := atI2 (R := le) hb hc
    simp only [Option.bind_eq_bind] at h1 h2
    rw [h1, h2]
    unfold andO
    cases le a c <;> rfl
  simp only [Option.bind_some]
  have hU : ∀ c, c ∈ (List.range n).filter (fun c => le a c && le b c) ↔ c < n ∧ le a c = true ∧ le b c = true := fun c => by simp [List.mem_filter]
  generalize hUe : (List.range n).filter (fun c => le a c && le b c) = U at hU
  have hl : U.length ≤ n := by rw [← hUe]; exact Nat.le_trans (List.length_filter_le _ _) (by simp)
  rw [forL_find (p := fun e => (U.filter (fun x => le e x)).length == U.length) (g := fun e => some ((e : Nat) : Int))]
  · have hj : j a b ∈ U := (hU _).mpr ⟨L.lt a b ha hb, L.l a b ha hb, L.r a b ha hb⟩
    have key : ∀ e ∈ U, ((U.filter (fun x => le e x)).length == U.length) = true ↔ e = j a b := by
      intro e he
      rw [beq_iff_eq, List.length_filter_eq_length_iff]
      obtain ⟨h1, h2, h3⟩ := (hU e).mp he
      constructor
      · intro h
        exact o.an e (j a b) h1 (L.lt a b ha hb) (h _ hj) (L.le a b e ha hb h1 h2 h3)
      · rintro rfl x hx
        obtain ⟨k1, k2, k3⟩ := (hU x).mp hx
        exact L.le a b x ha hb k1 k2 k3
    cases hf : U.find? (fun e => (U.filter (fun x => le e x)).length == U.length) with
    | none =>
      have := List.find?_eq_none.mp hf _ hj
      exact absurd ((key _ hj).mpr rfl) this
    | some e =>
      have h1 := List.mem_of_find?_eq_some hf
      have h2 := List.find?_some hf
      have := (key e h1).mp h2
      subst this
      rfl
  · intro e he
    obtain ⟨h1, _, _⟩ := (hU e).mp he
    unfold m_least_above_b1
    rw [lcS_map (p := fun x => le e x) (g := fun c => (c : Int)) (by omega) ?h2 (fun _ _ => rfl)]
    case h2 =>
      intro x hx
      obtain ⟨k1, _, _⟩ := (hU x).mp hx
      exact atI2 h1 k1
    simp only [Option.bind_eq_bind, Option.bind_some, List.length_map]
    have : (((U.filter fun x => le e x).length : Int) == (U.length : Int)) = ((U.filter fun x => le e x).length == U.length) := by
      cases h : ((U.filter fun x => le e x).length == U.length) with
      | true => rw [beq_iff_eq] at h; rw [h]; simp
      | false => rw [beq_eq_false_iff_ne] at h ⊢; omega
    rw [this]
    cases ((U.filter fun x => le e x).length == U.length) <;> rfl
theorem bounds_eq {n : Nat} {le : Nat → Nat → Bool} {j : Nat → Nat → Nat} (hn : n ≤ 12) (o : Ord n le) (L : Lub n le j) : m_bounds_table (tab2 n le) = some (tab2 n fun a b => some ((j a b : Nat) : Int)) := by
  unfold m_bounds_table
  rw [tab_len]
  simp only [Option.bind_eq_bind, Option.bind_some]
  rw [rngM0 (by omega)]
  simp only [Option.bind_some]
  rw [mapS_tab (g := fun a => tab n fun b => some ((j a b : Nat) : Int)) (by omega)]
  · rfl
  · intro a ha
    rw [mapS_tab (g := fun b => some ((j a b : Nat) : Int)) (by omega)]
    intro b hb
    exact least_above_eq hn o L ha hb
theorem first_ring_eq {n : Nat} {le : Nat → Nat → Bool} (hn : n ≤ 12) (o : Ord n le) : m_first_ring (tab2 n le) = some none := by
  unfold m_first_ring
  rw [tab_len]
  simp only [Option.bind_eq_bind, Option.bind_some]
  rw [rngM0 (by omega)]
  simp only [Option.bind_some]
  rw [forL_nxT]
  · rfl
  · intro a ha
    unfold m_first_ring_b1
    rw [tab_len]
    simp only [Option.bind_eq_bind, Option.bind_some]
    rw [show (a : Int) + 1 = ((a + 1 : Nat) : Int) by simp, rngM1 (by omega) (by omega)]
    simp only [Option.bind_some]
    rw [forL_nxT]
    · rfl
    · intro i hi
      have hb : a + 1 + i < n := by omega
      unfold m_first_ring_b2
      have h1 := atI2 (R := le) ha hb
      have h2 := atI2 (R := le) hb ha
      rw [h1, h2]
      unfold andO
      cases e1 : le a (a + 1 + i) with
      | false => rfl
      | true =>
        cases e2 : le (a + 1 + i) a with
        | false => rfl
        | true => exact absurd (o.an _ _ ha hb e1 e2) (by omega)
theorem first_lack_eq {n : Nat} {j : Nat → Nat → Int} (hn : n ≤ 12) : m_first_lack (tab2 n fun a b => some (j a b)) = some none := by
  unfold m_first_lack
  rw [tab_len]
  simp only [Option.bind_eq_bind, Option.bind_some]
  rw [rngM0 (by omega)]
  simp only [Option.bind_some]
  rw [forL_nxT]
  · rfl
  · intro a ha
    unfold m_first_lack_b1
    rw [tab_len]
    simp only [Option.bind_eq_bind, Option.bind_some]
    rw [show (a : Int) + 1 = ((a + 1 : Nat) : Int) by simp, rngM1 (by omega) (by omega)]
    simp only [Option.bind_some]
    rw [forL_nxT]
    · rfl
    · intro i hi
      have hb : a + 1 + i < n := by omega
      unfold m_first_lack_b2
      have h1 := atI2 (R := fun a b => some (j a b)) ha hb
      rw [h1]
      rfl
theorem turned_eq {n : Nat} {le : Nat → Nat → Bool} (hn : n ≤ 12) : m_turned (tab2 n le) = some (tab2 n fun a b => le b a) := by
  unfold m_turned
  rw [tab_len, rngM0 (by omega)]
  simp only [Option.bind_eq_bind, Option.bind_some]
  rw [mapS_tab (g := fun a => tab n fun b => le b a) (by omega)]
  · rfl
  · intro a ha
    rw [mapS_tab (g := fun b => le b a) (by omega)]
    intro b hb
    exact atI2 hb ha
theorem Ord.op {n : Nat} {le : Nat → Nat → Bool} (o : Ord n le) : Ord n (fun a b => le b a) :=
  ⟨o.rf, fun a b ha hb h1 h2 => o.an a b ha hb h2 h1, fun a b c ha hb hc h1 h2 => o.tr c b a hc hb ha h2 h1⟩
theorem maxL_some : ∀ {xs : List Int}, xs ≠ [] → ∃ m, maxL xs = some m
  | [], h => absurd rfl h
  | [x], _ => ⟨x, rfl⟩
  | x :: y :: ys, _ => by
    obtain ⟨m, h⟩ := maxL_some (xs := y :: ys) (by simp)
    exact ⟨_, by unfold maxL; rw [h]; rfl⟩
theorem longest_some {n : Nat} {le : Nat → Nat → Bool} (hn : n ≤ 12) (h0 : 0 < n) : ∃ m, m_longest (tab2 n le) = some m := by
  unfold m_longest
  have hl : (tab2 n le).length = n := tab_len
  rw [mapS_map (g := fun _ => (0 : Int)) (by omega) (fun _ _ => rfl)]
  simp only [Option.bind_eq_bind, Option.bind_some]
  obtain ⟨s, e, hs⟩ := forS_keep (body := m_longest_b1 (tab2 n le)) (xs := tab2 n le) (k := 0) (I := fun _ (s : List Int) => s.length = n) (s := List.map (fun _ => (0 : Int)) (tab2 n le)) (by simp [tab_len]) (by
    intro x _ k s _ _ hs
    unfold m_longest_b1
    simp only [tab_len, Option.bind_eq_bind, Option.bind_some]
    rw [rngM0 (by omega)]
    simp only [Option.bind_some]
    obtain ⟨s2, e2, hs2⟩ := forS_keep (body := m_longest_b2 (tab2 n le)) (xs := tab n fun i => (i : Int)) (k := 0) (I := fun _ (s : List Int) => s.length = n) (s := s) hs (by
      intro x hx k s _ _ hs
      obtain ⟨a, ha, rfl⟩ := tab_mem.mp hx
      unfold m_longest_b2
      simp only [tab_len, Option.bind_eq_bind, Option.bind_some]
      rw [rngM0 (by omega)]
      simp only [Option.bind_some]
      obtain ⟨s3, e3, hs3⟩ := forS_keep (body := m_longest_b3 (a : Int) (tab2 n le)) (xs := tab n fun i => (i : Int)) (k := 0) (I := fun _ (s : List Int) => s.length = n) (s := s) hs (by
        intro x hx k s _ _ hs
        obtain ⟨b, hb, rfl⟩ := tab_mem.mp hx
        unfold m_longest_b3
        have h1 := atI2 (R := le) ha hb
        rw [h1]
        unfold andO
        have g1 := atI_nat (xs := s) (i := b) (by omega)
        have g2 := atI_nat (xs := s) (i := a) (by omega)
        cases e : ((a : Int) == (b : Int)) with
        | true => exact ⟨s, by simp, hs⟩
        | false =>
          cases e2 : le a b with
          | false => exact ⟨s, by simp, hs⟩
          | true =>
            simp only [Bool.not_false, Option.bind_eq_bind, Option.bind_some, cond_true, g1, g2]
            unfold setM
            rw [ixN_nat (by omega)]
            exact ⟨_, rfl, by simp [hs]⟩)
      rw [e3]
      exact ⟨s3, rfl, hs3⟩)
    rw [e2]
    exact ⟨s2, rfl, hs2⟩)
  rw [e]
  obtain ⟨m, hm⟩ := maxL_some (xs := s) (by intro q; subst q; simp at hs; omega)
  exact ⟨m, by simp only [Option.bind_some]; rw [hm]; rfl⟩
/-- a lattice of n places -/
structure Lat (n : Nat) (le : Nat → Nat → Bool) (j m : Nat → Nat → Nat) : Prop where
  lo : 1 ≤ n
  hi : n ≤ 12
  o : Ord n le
  j : Lub n le j
  m : Lub n (fun a b => le b a) m
structure IsOrd (n : Nat) (le : Nat → Nat → Bool) (j m : Nat → Nat → Nat) (o : m_Order) : Prop where
  above : o.f_above = tab2 n le
  joins : o.f_joins = tab2 n fun a b => some ((j a b : Nat) : Int)
  meets : o.f_meets = tab2 n fun a b => some ((m a b : Nat) : Int)
  members : o.f_members = tab n fun i => (i : Int)
theorem Order_init_eq {n : Nat} {le : Nat → Nat → Bool} {j m : Nat → Nat → Nat} {ps : List (Int × Int)} (L : Lat n le j m) (g : Gens n le ps) : ∃ o, m_Order___init__ (n : Int) ps = some o ∧ IsOrd n le j m o := by
  have hn := L.hi
  have h0 := L.lo
  unfold m_Order___init__
  have e1 : ((decide ((n : Int) < 1)) || (decide ((12 : Int) < (n : Int)))) = false := by simp; omega
  rw [e1]
  simp only [Option.bind_eq_bind, bs, cond_false]
  rw [forS_un (body := m_Order___init___b1 (n : Int)) (by
    intro p hp
    obtain ⟨a, b, ha, hb, rfl⟩ := g.rg p hp
    unfold m_Order___init___b1
    simp only [Option.bind_eq_bind, bs]
    rw [forS_un]
    · rfl
    · intro x hx
      unfold m_Order___init___b2
      have : (decide (x < 0) || decide ((n : Int) ≤ x)) = false := by
        rcases List.mem_cons.mp hx with rfl | hx
        · simp; omega
        · rcases List.mem_cons.mp hx with rfl | hx
          · simp; omega
          · cases hx
      rw [this]; rfl)]
  simp only [bs]
  rw [closure_le hn L.o g]
  simp only [bs]
  rw [first_ring_eq hn L.o]
  simp only [bs, Option.isSome_none, cond_false]
  rw [bounds_eq hn L.o L.j]
  simp only [bs]
  rw [first_lack_eq hn]
  simp only [bs, Option.isSome_none, cond_false]
  rw [turned_eq hn]
  simp only [bs]
  rw [bounds_eq hn L.o.op L.m]
  simp only [bs]
  rw [first_lack_eq hn]
  simp only [bs, Option.isSome_none, cond_false]
  rw [rngM0 (by omega)]
  simp only [bs]
  obtain ⟨h, hh⟩ := longest_some (le := le) hn h0
  rw [hh]
  simp only [bs]
  refine ⟨⟨tab2 n le, _, _, _, h⟩, congrArg some (Eq.refl _), ?_⟩
  exact ⟨Eq.refl _, Eq.refl _, Eq.refl _, Eq.refl _⟩
theorem require_eq {n : Nat} {le : Nat → Nat → Bool} {j m : Nat → Nat → Nat} {o : m_Order} (h : IsOrd n le j m o) {a b : Nat} (ha : a < n) (hb : b < n) : m_Order__require o (a : Int) (b : Int) = some () := by
  unfold m_Order__require
  simp only [Option.bind_eq_bind, Option.bind_some]
  rw [forS_un]
  · rfl
  · intro x hx
    unfold m_Order__require_b1
    rw [h.members, tab_len]
    have : (decide (x < 0) || decide ((n : Int) ≤ x)) = false := by
      rcases List.mem_cons.mp hx with rfl | hx
      · simp; omega
      · rcases List.mem_cons.mp hx with rfl | hx
        · simp; omega
        · cases hx
    rw [this]; rfl
theorem below_eq {n : Nat} {le : Nat → Nat → Bool} {j m : Nat → Nat → Nat} {o : m_Order} (h : IsOrd n le j m o) {a b : Nat} (ha : a < n) (hb : b < n) : m_Order_below o (a : Int) (b : Int) = some (le a b) := by
  unfold m_Order_below
  rw [require_eq h ha hb, h.above]
  have h1 := atI2 (R := le) ha hb
  rw [h1]
  rfl
end My

namespace My
open PySem L2 Sim PyProof.Rows
/-! ### the pot -/
theorem draw_eq (pot : List Int) {n : Nat} (h : 0 < n) : ∃ (v : Nat) (pot' : List Int), m__law_draw pot (n : Int) = some ((v : Int), pot') ∧ v < n := by
  unfold m__law_draw
  cases e : ((pot.length : Int) == 0) with
  | true => exact ⟨0, pot, rfl, h⟩
  | false =>
    have h0 : 0 < pot.length := by rw [beq_eq_false_iff_ne] at e; omega
    simp only [Option.bind_eq_bind, bs, cond_false]
    unfold popM
    rw [List.getElem?_eq_getElem (show pot.length - 1 < pot.length by omega)]
    simp only [Option.bind_eq_bind, bs]
    unfold modM
    rw [if_pos (by omega)]
    have h1 := Int.emod_nonneg (pot[pot.length - 1]) (show (n : Int) ≠ 0 by omega)
    have h2 := Int.emod_lt_of_pos (pot[pot.length - 1]) (show (0 : Int) < n by omega)
    refine ⟨(pot[pot.length - 1] % (n : Int)).toNat, pot.dropLast, ?_, by omega⟩
    simp only [bs]
    rw [show (((pot[pot.length - 1] % (n : Int)).toNat : Nat) : Int) = pot[pot.length - 1] % (n : Int) by omega]
theorem draw_lit (pot : List Int) (n : Nat) (h : 0 < n) {z : Int} (hz : z = (n : Int)) : ∃ (v : Nat) (pot' : List Int), m__law_draw pot z = some ((v : Int), pot') ∧ v < n := by
  subst hz; exact draw_eq pot h
theorem pot_b2 {k : Nat} {x : Int} {s : List Int × Int} (h1 : s.1.length ≤ k) (hk : k < 100000) : ∃ s', m__law_pot_b2 x s = some s' ∧ s'.1.length ≤ k + 1 := by
  obtain ⟨p, r⟩ := s
  unfold m__law_pot_b2
  simp only [Option.bind_eq_bind, bs]
  have hd : fdivM r 100 = some (r / 100) := by unfold fdivM; rw [if_pos (by decide)]
  have hm : modM r 100 = some (r % 100) := by unfold modM; rw [if_pos (by decide)]
  have ha : appM p (r % 100) = some (p ++ [r % 100]) := by unfold appM; rw [sz_t (show p.length < 100000 from Nat.lt_of_le_of_lt h1 hk)]; rfl
  rw [hd, hm]
  have h1 : p.length ≤ k := h1
  cases (decide ((0 : Int) < r) || x == 0) with
  | true =>
    simp only [cond_true, bs, ha]
    exact ⟨_, rfl, by simp; exact h1⟩
  | false =>
    simp only [cond_false, bs]
    exact ⟨_, rfl, by simp; omega⟩
theorem pot_b1 {ns : List Int} {i k : Nat} {s : List Int} (hi : i < ns.length) (hi' : i < 63) (h1 : s.length ≤ k) (hk : k + 60 < 100000) : ∃ s', m__law_pot_b1 ns (i : Int) s = some s' ∧ s'.length ≤ k + 60 := by
  unfold m__law_pot_b1
  rw [atI_nat hi]
  simp only [Option.bind_eq_bind, bs]
  generalize hr : (if ns[i] < 0 then -ns[i] else ns[i]) = r
  have hr0 : 0 ≤ r := by rw [← hr]; split <;> omega
  have hp : powM 10 18 = some 1000000000000000000 := by decide
  rw [hp]
  simp only [bs]
  have loop : ∀ (m : Nat) (r : Int), m ≤ 60 → ∃ s', ((rngM 0 (m : Int)).bind fun xs1671 => (forS m__law_pot_b2 xs1671 (s, r)).bind fun s1676 => some s1676.1) = some s' ∧ s'.length ≤ k + 60 := by
    intro m r hm
    rw [rngM0 (by omega)]
    simp only [bs]
    obtain ⟨t, e, ht⟩ := forS_keep (body := m__law_pot_b2) (xs := tab m fun i => (i : Int)) (k := k) (I := fun j (s : List Int × Int) => s.1.length ≤ j) (s := (s, r)) h1 (by
      intro x _ j s hj hj' hs
      rw [tab_len] at hj'
      exact pot_b2 hs (by omega))
    rw [e]
    rw [tab_len] at ht
    exact ⟨_, rfl, by omega⟩
  cases e : decide (r < 1000000000000000000) with
  | false =>
    simp only [cond_false, bs]
    obtain ⟨s', e2, h2⟩ := loop 60 r (by omega)
    exact ⟨s', e2, h2⟩
  | true =>
    have hr1 : r < 1000000000000000000 := of_decide_eq_true e
    simp only [cond_true, bs]
    have k1 : mulM 2 r = some (2 * r) := by unfold mulM; rw [if_pos (by omega)]
    have k2 : mulM 2 (i : Int) = some (2 * (i : Int)) := by unfold mulM; rw [if_pos (by omega)]
    have k3 : ∀ z, mulM z (48271 + 2 * (i : Int)) = some (z * (48271 + 2 * (i : Int))) := fun z => by unfold mulM; rw [if_pos (by omega)]
    rw [k1, k2]
    simp only [bs]
    rw [k3]
    simp only [bs]
    have k4 : ∀ z, modM z 2147483647 = some (z % 2147483647) := fun z => by unfold modM; rw [if_pos (by decide)]
    have k5 : ∀ z, modM z 2147483629 = some (z % 2147483629) := fun z => by unfold modM; rw [if_pos (by decide)]
    rw [k4]
    simp only [bs]
    generalize hq : ((2 * r + if decide (ns[i] < 0) = true then (1 : Int) else 0) * (48271 + 2 * (i : Int))) % 2147483647 = q
    have q0 : 0 ≤ q := by rw [← hq]; exact Int.emod_nonneg _ (by decide)
    have q1 : q < 2147483647 := by rw [← hq]; exact Int.emod_lt_of_pos _ (by decide)
    have k6 : mulM q q = some (q * q) := by unfold mulM; rw [if_pos (by omega)]
    have k7 : mulM q (i : Int) = some (q * (i : Int)) := by unfold mulM; rw [if_pos (by omega)]
    rw [k6, k7]
    simp only [bs]
    rw [k5]
    simp only [bs]
    obtain ⟨s', e2, h2⟩ := loop 4 ((q * q + q * (i : Int)) % 2147483629) (by omega)
    exact ⟨s', e2, h2⟩
theorem pot_eq (ns : List Int) : ∃ p, m__law_pot ns = some p := by
  unfold m__law_pot
  simp only [Option.bind_eq_bind, bs]
  have hn : ∃ n : Nat, (if (63 : Int) < (ns.length : Int) then (63 : Int) else (ns.length : Int)) = (n : Int) ∧ n ≤ 63 ∧ n ≤ ns.length := by
    split
    · exact ⟨63, rfl, by omega, by omega⟩
    · exact ⟨ns.length, rfl, by omega, by omega⟩
  obtain ⟨n, e, h1, h2⟩ := hn
  rw [e, rngM0 (by omega)]
  simp only [bs]
  obtain ⟨t, e, ht⟩ := forS_keep (body := m__law_pot_b1 ns) (xs := tab n fun i => (i : Int)) (k := 0) (I := fun j (s : List Int) => s.length ≤ j * 60) (s := []) (by simp) (by
    intro x hx j s hj hj' hs
    rw [tab_len] at hj'
    obtain ⟨i, hi, rfl⟩ := tab_mem.mp hx
    obtain ⟨s', e1, h1⟩ := pot_b1 (ns := ns) (i := i) (k := j * 60) (s := s) (by omega) (by omega) hs (by omega)
    exact ⟨s', e1, by omega⟩)
  rw [e]
  exact ⟨_, rfl⟩

/-! ### the masks -/
def nts (ms : List Nat) : List Int := ms.map (fun k : Nat => (k : Int))
structure Masks (ms : List Nat) : Prop where
  nd : ms.Nodup
  lt : ∀ x ∈ ms, x < 32
  top : 31 ∈ ms
  cl : ∀ x ∈ ms, ∀ y ∈ ms, x &&& y ∈ ms
theorem bitAnd_nat (x y : Nat) : Builtin.bitAnd (x : Int) (y : Int) = ((x &&& y : Nat) : Int) := by
  rw [bitAnd_pp (by omega) (by omega)]; simp
theorem mem_nts {x : Nat} {ms : List Nat} : (x : Int) ∈ nts ms ↔ x ∈ ms := by
  unfold nts
  rw [List.mem_map]
  constructor
  · rintro ⟨k, hk, e⟩
    have : k = x := by omega
    subst this; exact hk
  · intro h; exact ⟨x, h, rfl⟩
theorem nts_len {ms : List Nat} : (nts ms).length = ms.length := by simp [nts]
theorem len_sub {α : Type} [BEq α] [LawfulBEq α] : ∀ {l l2 : List α}, l.Nodup → (∀ x ∈ l, x ∈ l2) → l.length ≤ l2.length
  | [], _, _, _ => Nat.zero_le _
  | x :: xs, l2, h, hs => by
    have hx := hs x (List.mem_cons_self ..)
    obtain ⟨h1, h2⟩ := List.nodup_cons.mp h
    have := len_sub (l := xs) (l2 := l2.erase x) h2 fun y hy => by
      have hne : y ≠ x := fun e => h1 (e ▸ hy)
      exact (List.mem_erase_of_ne hne).mpr (hs y (List.mem_cons_of_mem _ hy))
    rw [List.length_erase_of_mem hx] at this
    have := List.length_pos_of_mem hx
    simp only [List.length_cons]
    omega
theorem nodup_len {ms : List Nat} (h : ms.Nodup) (hl : ∀ x ∈ ms, x < 32) : ms.length ≤ 32 := by
  have := len_sub h (l2 := List.range 32) (fun x hx => List.mem_range.mpr (hl x hx))
  simpa using this
/-- all & v added -/
def addAll (v : Nat) : List Nat → List Nat → List Nat
  | [], s => s
  | x :: xs, s => addAll v xs (if x &&& v ∈ s then s else s ++ [x &&& v])
theorem addAll_mem {v : Nat} : ∀ {xs s : List Nat} {z : Nat}, z ∈ addAll v xs s ↔ z ∈ s ∨ ∃ x ∈ xs, x &&& v = z
  | [], s, z => by simp [addAll]
  | x :: xs, s, z => by
    unfold addAll
    rw [addAll_mem]
    split
    · rename_i h
      constructor
      · rintro (h1 | ⟨y, hy, rfl⟩)
        · exact Or.inl h1
        · exact Or.inr ⟨y, List.mem_cons_of_mem _ hy, rfl⟩
      · rintro (h1 | ⟨y, hy, rfl⟩)
        · exact Or.inl h1
        · rcases List.mem_cons.mp hy with rfl | hy
          · exact Or.inl h
          · exact Or.inr ⟨y, hy, rfl⟩
    · constructor
      · rintro (h1 | ⟨y, hy, rfl⟩)
        · rcases List.mem_append.mp h1 with h1 | h1
          · exact Or.inl h1
          · rw [List.mem_singleton] at h1
            exact Or.inr ⟨x, List.mem_cons_self .., h1.symm⟩
        · exact Or.inr ⟨y, List.mem_cons_of_mem _ hy, rfl⟩
      · rintro (h1 | ⟨y, hy, rfl⟩)
        · exact Or.inl (List.mem_append_left _ h1)
        · rcases List.mem_cons.mp hy with rfl | hy
          · exact Or.inl (List.mem_append_right _ (List.mem_singleton.mpr rfl))
          · exact Or.inr ⟨y, hy, rfl⟩
theorem addAll_nd {v : Nat} : ∀ {xs s : List Nat}, s.Nodup → (addAll v xs s).Nodup
  | [], s, h => h
  | x :: xs, s, h => by
    unfold addAll
    split
    · exact addAll_nd h
    · rename_i hx
      exact addAll_nd (by
        rw [List.nodup_append]
        refine ⟨h, by simp, fun a ha b hb e => ?_⟩
        rw [List.mem_singleton] at hb
        subst hb; subst e
        exact hx ha)
theorem addAll_lt {v : Nat} {xs s : List Nat} (h : ∀ x ∈ s, x < 32) (hv : v < 32) : ∀ x ∈ addAll v xs s, x < 32 := by
  intro z hz
  rcases addAll_mem.mp hz with h1 | ⟨x, _, rfl⟩
  · exact h z h1
  · exact Nat.lt_of_le_of_lt Nat.and_le_right hv
theorem addAll_masks {v : Nat} {ms : List Nat} (h : Masks ms) (hv : v < 32) : Masks (addAll v ms ms) := by
  refine ⟨addAll_nd h.nd, addAll_lt h.lt hv, addAll_mem.mpr (Or.inl h.top), fun x hx y hy => ?_⟩
  refine addAll_mem.mpr ?_
  rcases addAll_mem.mp hx with h1 | ⟨a, ha, rfl⟩ <;> rcases addAll_mem.mp hy with h2 | ⟨b, hb, rfl⟩
  · exact Or.inl (h.cl _ h1 _ h2)
  · exact Or.inr ⟨x &&& b, h.cl _ h1 _ hb, Nat.and_assoc ..⟩
  · exact Or.inr ⟨a &&& y, h.cl _ ha _ h2, by rw [Nat.and_assoc, Nat.and_assoc, Nat.and_comm y v]⟩
  · refine Or.inr ⟨a &&& b, h.cl _ ha _ hb, ?_⟩
    rw [Nat.and_assoc, Nat.and_assoc, ← Nat.and_assoc v b v, Nat.and_comm v b, Nat.and_assoc b v v, Nat.and_self]
theorem masks_b2 {v : Nat} {pp : List Int} (hv : v < 32) : ∀ {xs s : List Nat}, s.Nodup → (∀ x ∈ s, x < 32) → forS (m__law_masks_b2 ((v : Int), pp)) (nts xs) (nts s) = some (nts (addAll v xs s))
  | [], s, _, _ => rfl
  | x :: xs, s, h, hl => by
    have ih : ∀ {s : List Nat}, s.Nodup → (∀ x ∈ s, x < 32) → forS (m__law_masks_b2 ((v : Int), pp)) (nts xs) (nts s) = some (nts (addAll v xs s)) := fun h1 h2 => masks_b2 hv h1 h2
    show (m__law_masks_b2 ((v : Int), pp) (x : Int) (nts s) >>= forS (m__law_masks_b2 ((v : Int), pp)) (nts xs)) = _
    have h1 := addAll_nd (v := v) (xs := [x]) h
    have h2 := addAll_lt (v := v) (xs := [x]) hl hv
    unfold addAll at h1 h2
    unfold addAll at h1 h2
    unfold addAll
    have e : m__law_masks_b2 ((v : Int), pp) (x : Int) (nts s) = some (nts (if x &&& v ∈ s then s else s ++ [x &&& v])) := by
      unfold m__law_masks_b2
      simp only [Option.bind_eq_bind, bs, bitAnd_nat]
      have hm : ((nts s).any fun z => z == ((x &&& v : Nat) : Int)) = decide (x &&& v ∈ s) := by
        cases q : ((nts s).any fun z => z == ((x &&& v : Nat) : Int)) with
        | true =>
          rw [List.any_eq_true] at q
          obtain ⟨z, hz, e⟩ := q
          rw [beq_iff_eq] at e; subst e
          simp [mem_nts.mp hz]
        | false =>
          have : x &&& v ∉ s := fun hx => by
            rw [List.any_eq_false] at q
            exact q _ (mem_nts.mpr hx) (by simp)
          simp [this]
      rw [hm]
      by_cases q : x &&& v ∈ s
      · simp [q]
      · have := nodup_len h hl
        simp only [q, decide_false, Bool.not_false, cond_true, if_false]
        unfold appM
        rw [sz_t (by rw [nts_len]; omega)]
        simp [nts]
    rw [e]
    exact ih h1 h2
structure MSt (most : Nat) (s : List Int × List Int) : Prop where
  ex : ∃ ms, Masks ms ∧ s.1 = nts ms ∧ ms.length ≤ most
theorem masks_b1 {most : Nat} {x : Int} {s : List Int × List Int} (h : MSt most s) : ∃ s', m__law_masks_b1 (most : Int) x s = some s' ∧ MSt most s' := by
  obtain ⟨m, p⟩ := s
  obtain ⟨ms, h1, rfl, h2⟩ := h.ex
  unfold m__law_masks_b1
  simp only [Option.bind_eq_bind, bs]
  obtain ⟨v, pot', e, hv⟩ := draw_lit p 32 (by decide) (z := 32) rfl
  rw [e]
  simp only [bs]
  rw [masks_b2 hv h1.nd h1.lt]
  simp only [bs, nts_len]
  by_cases q : (addAll v ms ms).length ≤ most
  · have : decide (((addAll v ms ms).length : Int) ≤ (most : Int)) = true := by simp; exact q
    rw [this]
    exact ⟨_, rfl, ⟨_, addAll_masks h1 hv, rfl, q⟩⟩
  · have : decide (((addAll v ms ms).length : Int) ≤ (most : Int)) = false := by simp; omega
    rw [this]
    exact ⟨_, rfl, ⟨_, h1, rfl, h2⟩⟩
theorem ixN_popAt {n k : Nat} (h : k < n) : seqIndex? (k : Int) n = some k := by
  unfold seqIndex?
  have : ¬ ((k : Int) < 0) := by omega
  simp only [this, if_false]
  have h2 : (decide (0 ≤ (k : Int)) && decide ((k : Int) < (n : Int))) = true := by simp; exact h
  rw [if_pos h2]
  rfl
theorem perm_erase {α : Type} : ∀ {xs : List α} {k : Nat} (h : k < xs.length), xs.Perm (xs[k] :: xs.eraseIdx k)
  | x :: xs, 0, _ => .refl _
  | x :: xs, k + 1, h => by
    have h : k < xs.length := by simpa using h
    exact ((perm_erase h).cons x).trans (.swap ..)
/-- a list drawn out in another order -/
theorem popAt_eq {α : Type} {xs : List α} {k : Nat} (h : k < xs.length) (h2 : xs.length < 100000) : popAtM xs (k : Int) = some (xs[k], xs.eraseIdx k) := by
  unfold popAtM
  rw [if_pos (by omega), ixN_popAt h]
  simp only [Option.bind_eq_bind, bs]
  rw [List.getElem?_eq_getElem h]
  rfl
theorem masks_b3 {xs : List Int} {k : Nat} {x : Int} {s : List Int × (List Int × List Int)} (hk : k < xs.length) (hl : xs.length < 100) (h : (s.1 ++ s.2.2).Perm xs ∧ s.1.length = k) :
    ∃ s', m__law_masks_b3 x s = some s' ∧ (s'.1 ++ s'.2.2).Perm xs ∧ s'.1.length = k + 1 := by
  obtain ⟨a, p, r⟩ := s
  obtain ⟨h1, h2⟩ := h
  have h1 : (a ++ r).Perm xs := h1
  have h2 : a.length = k := h2
  have hr := h1.length_eq
  rw [List.length_append] at hr
  unfold m__law_masks_b3
  simp only [Option.bind_eq_bind, bs]
  obtain ⟨v, pot', e, hv⟩ := draw_eq p (n := r.length) (by omega)
  rw [e]
  simp only [bs]
  rw [popAt_eq hv (by omega)]
  simp only [bs]
  unfold appM
  rw [sz_t (by omega)]
  refine ⟨_, rfl, ?_, by simp [h2]⟩
  show ((a ++ [r[v]]) ++ r.eraseIdx v).Perm xs
  refine (List.Perm.trans ?_ h1)
  rw [List.append_assoc]
  exact List.Perm.append_left a (perm_erase hv).symm
theorem Masks.perm {ms ms' : List Nat} (h : Masks ms) (p : ms'.Perm ms) : Masks ms' :=
  ⟨p.nodup_iff.mpr h.nd, fun x hx => h.lt x (p.mem_iff.mp hx), p.mem_iff.mpr h.top, fun x hx y hy => p.mem_iff.mpr (h.cl x (p.mem_iff.mp hx) y (p.mem_iff.mp hy))⟩
theorem perm_nts {xs : List Int} {ms : List Nat} (p : xs.Perm (nts ms)) : ∃ ms', xs = nts ms' ∧ ms'.Perm ms := by
  refine ⟨xs.map Int.toNat, ?_, ?_⟩
  · unfold nts
    rw [List.map_map]
    have : ∀ x ∈ xs, (((fun k : Nat => (k : Int)) ∘ Int.toNat) x) = x := fun x hx => by
      obtain ⟨k, _, rfl⟩ := List.mem_map.mp (p.mem_iff.mp hx)
      simp
    rw [List.map_congr_left this]
    simp
  · have := p.map Int.toNat
    unfold nts at this
    rw [List.map_map] at this
    have e : (Int.toNat ∘ fun k : Nat => (k : Int)) = id := by funext k; simp
    rw [e, List.map_id] at this
    exact this
theorem masks_eq (pot : List Int) {most : Nat} (hm : 1 ≤ most) : ∃ ms pot', m__law_masks pot (most : Int) = some (nts ms, pot') ∧ Masks ms ∧ ms.length ≤ most := by
  unfold m__law_masks
  simp only [Option.bind_eq_bind, bs]
  obtain ⟨v, p1, e, hv⟩ := draw_lit pot 6 (by decide) (z := 6) rfl
  rw [e]
  simp only [bs]
  have e2 : modM ((v : Int) + 1) 6 = some (((v + 1) % 6 : Nat) : Int) := by
    unfold modM
    rw [if_pos (by decide)]
    simp
  rw [e2]
  simp only [bs]
  rw [rngM0 (by omega)]
  simp only [bs]
  obtain ⟨s, e3, h3⟩ := forS_keep (body := m__law_masks_b1 (most : Int)) (xs := tab ((v + 1) % 6) fun i => (i : Int)) (k := 0) (I := fun _ s => MSt most s) (s := ([31], p1)) ⟨[31], ⟨by simp, by simp, by simp, by simp⟩, rfl, hm⟩ (fun x _ j s _ _ hs => masks_b1 hs)
  rw [e3]
  simp only [bs]
  obtain ⟨m, p2⟩ := s
  obtain ⟨ms, h4, rfl, h5⟩ := h3.ex
  have h6 := nodup_len h4.nd h4.lt
  rw [nts_len, if_pos (by omega)]
  simp only [bs]
  have hp := srtI_perm (nts ms)
  have hl := hp.length_eq
  rw [nts_len] at hl
  rw [hl, rngM0 (by omega)]
  simp only [bs]
  obtain ⟨s, e7, h7⟩ := forS_keep (body := m__law_masks_b3) (xs := tab ms.length fun i => (i : Int)) (k := 0) (I := fun j (s : List Int × (List Int × List Int)) => (s.1 ++ s.2.2).Perm (srtI (nts ms)) ∧ s.1.length = j) (s := ([], (p2, srtI (nts ms)))) ⟨by simp, rfl⟩ (by
    intro x _ j s _ hj hs
    rw [tab_len] at hj
    exact masks_b3 (by omega) (by omega) hs)
  rw [e7]
  simp only [bs]
  obtain ⟨a, p3, r⟩ := s
  obtain ⟨h8, h9⟩ := h7
  have h8 : (a ++ r).Perm (srtI (nts ms)) := h8
  have h9 : a.length = 0 + (tab ms.length fun i => (i : Int)).length := h9
  rw [tab_len] at h9
  have h10 := h8.length_eq
  rw [List.length_append] at h10
  have : r = [] := List.length_eq_zero_iff.mp (by omega)
  subst this
  rw [List.append_nil] at h8
  obtain ⟨ms', rfl, h11⟩ := perm_nts (h8.trans hp)
  exact ⟨ms', p3, rfl, h4.perm h11, by rw [h11.length_eq]; exact h5⟩

/-! ### the order of the masks -/
def mle (ms : List Nat) (a b : Nat) : Bool := (ms.getD a 0 &&& ms.getD b 0) == ms.getD a 0
def mmeet (ms : List Nat) (a b : Nat) : Nat := ms.idxOf (ms.getD a 0 &&& ms.getD b 0)
def andAll : List Nat → Nat
  | [] => 31
  | x :: xs => x &&& andAll xs
def mjoin (ms : List Nat) (a b : Nat) : Nat := ms.idxOf (andAll (ms.filter fun z => (ms.getD a 0 &&& z == ms.getD a 0) && (ms.getD b 0 &&& z == ms.getD b 0)))
theorem getD_mem {ms : List Nat} {a : Nat} (h : a < ms.length) : ms.getD a 0 ∈ ms := by
  rw [List.getD_eq_getElem?_getD, List.getElem?_eq_getElem h]; exact List.getElem_mem h
theorem getD_inj {ms : List Nat} (hd : ms.Nodup) {a b : Nat} (ha : a < ms.length) (hb : b < ms.length) (h : ms.getD a 0 = ms.getD b 0) : a = b := by
  rw [List.getD_eq_getElem?_getD, List.getD_eq_getElem?_getD, List.getElem?_eq_getElem ha, List.getElem?_eq_getElem hb] at h
  exact (List.getElem_inj hd).mp h
theorem getD_idx {ms : List Nat} {x : Nat} (h : x ∈ ms) : ms.idxOf x < ms.length ∧ ms.getD (ms.idxOf x) 0 = x := by
  have := List.idxOf_lt_length_of_mem h
  refine ⟨this, ?_⟩
  rw [List.getD_eq_getElem?_getD, List.getElem?_eq_getElem this]
  exact List.getElem_idxOf this
theorem andAll_mem {ms : List Nat} (h : Masks ms) : ∀ {xs : List Nat}, (∀ x ∈ xs, x ∈ ms) → andAll xs ∈ ms
  | [], _ => h.top
  | x :: xs, hx => h.cl _ (hx x (List.mem_cons_self ..)) _ (andAll_mem h fun y hy => hx y (List.mem_cons_of_mem _ hy))
theorem andAll_le {xs : List Nat} : ∀ {x : Nat}, x ∈ xs → andAll xs &&& x = andAll xs := by
  induction xs with
  | nil => intro x h; cases h
  | cons y ys ih =>
    intro x h
    unfold andAll
    rcases List.mem_cons.mp h with rfl | h
    · rw [Nat.and_comm x (andAll ys), Nat.and_assoc, Nat.and_self]
    · rw [Nat.and_assoc, ih h]
theorem le_andAll {a : Nat} (ha : a < 32) : ∀ {xs : List Nat}, (∀ x ∈ xs, a &&& x = a) → a &&& andAll xs = a
  | [], _ => by
    have : a % 2 ^ 5 = a := Nat.mod_eq_of_lt ha
    rw [← Nat.and_two_pow_sub_one_eq_mod] at this
    exact this
  | x :: xs, h => by
    show a &&& (x &&& andAll xs) = a
    rw [← Nat.and_assoc, h x (List.mem_cons_self ..), le_andAll ha fun y hy => h y (List.mem_cons_of_mem _ hy)]
theorem mOrd {ms : List Nat} (h : Masks ms) : Ord ms.length (mle ms) where
  rf a _ := by unfold mle; rw [Nat.and_self]; simp
  an a b ha hb h1 h2 := by
    unfold mle at h1 h2
    rw [beq_iff_eq] at h1 h2
    rw [Nat.and_comm] at h2
    exact getD_inj h.nd ha hb (h1.symm.trans h2)
  tr a b c ha hb hc h1 h2 := by
    unfold mle at h1 h2 ⊢
    rw [beq_iff_eq] at h1 h2 ⊢
    rw [← h1, Nat.and_assoc, h2]
theorem mMeet {ms : List Nat} (h : Masks ms) : Lub ms.length (fun a b => mle ms b a) (mmeet ms) where
  lt a b ha hb := (getD_idx (h.cl _ (getD_mem ha) _ (getD_mem hb))).1
  l a b ha hb := by
    unfold mle mmeet
    rw [(getD_idx (h.cl _ (getD_mem ha) _ (getD_mem hb))).2, beq_iff_eq, Nat.and_comm (ms.getD a 0), Nat.and_assoc, Nat.and_self]
  r a b ha hb := by
    unfold mle mmeet
    rw [(getD_idx (h.cl _ (getD_mem ha) _ (getD_mem hb))).2, beq_iff_eq, Nat.and_assoc, Nat.and_self]
  le a b c ha hb hc h1 h2 := by
    unfold mle mmeet at *
    rw [(getD_idx (h.cl _ (getD_mem ha) _ (getD_mem hb))).2]
    rw [beq_iff_eq] at *
    rw [← Nat.and_assoc, h1, h2]
theorem mJoin {ms : List Nat} (h : Masks ms) : Lub ms.length (mle ms) (mjoin ms) := by
  have hm : ∀ a b, andAll (ms.filter fun z => (ms.getD a 0 &&& z == ms.getD a 0) && (ms.getD b 0 &&& z == ms.getD b 0)) ∈ ms := fun a b => andAll_mem h fun x hx => (List.mem_filter.mp hx).1
  have hu : ∀ a b x, x ∈ (ms.filter fun z => (ms.getD a 0 &&& z == ms.getD a 0) && (ms.getD b 0 &&& z == ms.getD b 0)) ↔ x ∈ ms ∧ ms.getD a 0 &&& x = ms.getD a 0 ∧ ms.getD b 0 &&& x = ms.getD b 0 := fun a b x => by
    rw [List.mem_filter]; simp
  refine ⟨fun a b ha hb => (getD_idx (hm a b)).1, fun a b ha hb => ?_, fun a b ha hb => ?_, fun a b c ha hb hc h1 h2 => ?_⟩
  · unfold mle mjoin
    rw [(getD_idx (hm a b)).2, beq_iff_eq]
    exact le_andAll (h.lt _ (getD_mem ha)) fun x hx => ((hu a b x).mp hx).2.1
  · unfold mle mjoin
    rw [(getD_idx (hm a b)).2, beq_iff_eq]
    exact le_andAll (h.lt _ (getD_mem hb)) fun x hx => ((hu a b x).mp hx).2.2
  · unfold mle mjoin at *
    rw [(getD_idx (hm a b)).2]
    rw [beq_iff_eq] at *
    exact andAll_le ((hu a b _).mpr ⟨getD_mem hc, h1, h2⟩)
theorem Masks.ne {ms : List Nat} (h : Masks ms) : 1 ≤ ms.length := List.length_pos_of_mem h.top
theorem mLat {ms : List Nat} (h : Masks ms) (hl : ms.length ≤ 12) : Lat ms.length (mle ms) (mjoin ms) (mmeet ms) := ⟨h.ne, hl, mOrd h, mJoin h, mMeet h⟩
theorem atI_nts {ms : List Nat} {a : Nat} (h : a < ms.length) : atI (nts ms) (a : Int) = some ((ms.getD a 0 : Nat) : Int) := by
  rw [atI_nat (by rw [nts_len]; exact h)]
  simp [nts, List.getD_eq_getElem?_getD, List.getElem?_eq_getElem h]
theorem under_eq {ms : List Nat} {a b : Nat} (ha : a < ms.length) (hb : b < ms.length) : m__law_under (nts ms) (a : Int) (b : Int) = some (mle ms a b) := by
  unfold m__law_under
  rw [atI_nts ha, atI_nts hb]
  simp only [Option.bind_eq_bind, bs, bitAnd_nat]
  unfold mle
  congr 1
  cases e : (ms.getD a 0 &&& ms.getD b 0 == ms.getD a 0) with
  | true => rw [beq_iff_eq] at e; rw [e]; simp
  | false => rw [beq_eq_false_iff_ne] at e ⊢; omega
end My

namespace My
open PySem L2 Sim PyProof.Rows
theorem forS_flat {α β γ : Type} {body : β → List γ → Option (List γ)} {a : α → β} {f : α → List γ} {B : Nat} : ∀ {xs : List α} {s : List γ}, (∀ x ∈ xs, ∀ s, s.length + (f x).length ≤ B → body (a x) s = some (s ++ f x)) → s.length + (xs.flatMap f).length ≤ B →
    forS body (xs.map a) s = some (s ++ xs.flatMap f)
  | [], s, _, _ => by simp [forS]
  | x :: xs, s, h, hB => by
    show (body (a x) s >>= forS body (xs.map a)) = _
    rw [List.flatMap_cons, List.length_append] at hB
    rw [h x (List.mem_cons_self ..) s (by omega)]
    show forS body (xs.map a) (s ++ f x) = _
    rw [forS_flat (fun y hy => h y (List.mem_cons_of_mem _ hy)) (by rw [List.length_append]; omega), List.flatMap_cons, List.append_assoc]
theorem flat_len {α γ : Type} {f : α → List γ} {k : Nat} : ∀ {xs : List α}, (∀ x ∈ xs, (f x).length ≤ k) → (xs.flatMap f).length ≤ xs.length * k
  | [], _ => by simp
  | x :: xs, h => by
    rw [List.flatMap_cons, List.length_append, List.length_cons, Nat.succ_mul]
    have := flat_len (fun y hy => h y (List.mem_cons_of_mem _ hy))
    have := h x (List.mem_cons_self ..)
    omega
theorem andT {b : Option Bool} : andO (some true) b = b := rfl
theorem orF {b : Option Bool} : orO (some false) b = b := rfl
theorem natIn {n a : Nat} (h : a < n) : (decide ((a : Int) < 0) || decide ((n : Int) ≤ (a : Int))) = false := by simp; omega
theorem idx_nts {ms : List Nat} (nd : ms.Nodup) {a : Nat} (ha : a < ms.length) : idxM (fun a b => a == b) (nts ms) ((ms.getD a 0 : Nat) : Int) = some (a : Int) := by
  unfold idxM
  have e : (nts ms).findIdx? (fun z => z == ((ms.getD a 0 : Nat) : Int)) = some a := by
    rw [List.findIdx?_eq_some_iff_getElem]
    refine ⟨by rw [nts_len]; exact ha, ?_, ?_⟩
    · simp [nts, List.getD_eq_getElem?_getD, List.getElem?_eq_getElem ha]
    · intro k hk
      have hk' : k < ms.length := by omega
      have : ms.getD k 0 ≠ ms.getD a 0 := fun z => by have := getD_inj nd hk' ha z; omega
      simp only [nts, List.getElem_map]
      rw [List.getD_eq_getElem?_getD, List.getElem?_eq_getElem hk', List.getD_eq_getElem?_getD, List.getElem?_eq_getElem ha] at this
      rw [List.getD_eq_getElem?_getD, List.getElem?_eq_getElem ha]
      simp only [Option.getD_some] at this ⊢
      simp; omega
  rw [e]; rfl
theorem minL_some : ∀ {xs : List Int}, xs ≠ [] → ∃ m, minL xs = some m
  | [], h => absurd rfl h
  | [x], _ => ⟨x, rfl⟩
  | x :: y :: ys, _ => by
    obtain ⟨k, hk⟩ := minL_some (xs := y :: ys) (by simp)
    unfold minL
    rw [hk]
    exact ⟨_, rfl⟩
theorem minL_of {xs : List Int} {m : Int} (hm : m ∈ xs) (h : ∀ y ∈ xs, m ≤ y) : minL xs = some m := by
  obtain ⟨k, hk⟩ := minL_some (List.ne_nil_of_mem hm)
  obtain ⟨h1, h2⟩ := minL_ok hk
  have := h2 m hm
  have := h k h1
  rw [hk]; congr 1; omega
end My

namespace My
open PySem L2 Sim PyProof.Rows
/-! ### what an order answers -/
section
variable {n : Nat} {le : Nat → Nat → Bool} {j m : Nat → Nat → Nat} {o : m_Order}
theorem join_eq (h : IsOrd n le j m o) {a b : Nat} (ha : a < n) (hb : b < n) : m_Order_join_of o (a : Int) (b : Int) = some ((j a b : Nat) : Int) := by
  unfold m_Order_join_of
  rw [require_eq h ha hb, h.joins]
  have h1 := atI2 (R := fun a b => some ((j a b : Nat) : Int)) ha hb
  rw [h1]
  rfl
theorem meet_eq (h : IsOrd n le j m o) {a b : Nat} (ha : a < n) (hb : b < n) : m_Order_meet_of o (a : Int) (b : Int) = some ((m a b : Nat) : Int) := by
  unfold m_Order_meet_of
  rw [require_eq h ha hb, h.meets]
  have h1 := atI2 (R := fun a b => some ((m a b : Nat) : Int)) ha hb
  rw [h1]
  rfl
/-- the least, the greatest: folded -/
def fold0 (f : Nat → Nat → Nat) : Nat → Nat
  | 0 => 0
  | i + 1 => f (fold0 f i) i
theorem fold0_lub {f : Nat → Nat → Nat} (L : Lub n le f) (O : Ord n le) (h0 : 1 ≤ n) : ∀ i, i ≤ n → fold0 f i < n ∧ ∀ a, a < i → le a (fold0 f i) = true
  | 0, _ => ⟨by show 0 < n; omega, fun a ha => by omega⟩
  | i + 1, hi => by
    obtain ⟨h1, h2⟩ := fold0_lub L O h0 i (by omega)
    have h3 : f (fold0 f i) i < n := L.lt _ _ h1 (by omega)
    refine ⟨h3, fun a ha => ?_⟩
    show le a (f (fold0 f i) i) = true
    by_cases e : a = i
    · subst e; exact L.r _ _ h1 (by omega)
    · exact O.tr _ _ _ (by omega) h1 h3 (h2 a (by omega)) (L.l _ _ h1 (by omega))
theorem least_eq (h : IsOrd n le j m o) (L : Lat n le j m) : ∃ z : Nat, m_Order_least o = some (z : Int) ∧ z < n ∧ ∀ a, a < n → le z a = true := by
  obtain ⟨h1, h2⟩ := fold0_lub L.m L.o.op L.lo n (Nat.le_refl n)
  refine ⟨fold0 m n, ?_, h1, h2⟩
  unfold m_Order_least
  simp only [Option.bind_eq_bind, bs]
  rw [h.members]
  have := forS_tab (body := m_Order_least_b1 o) (a := fun i => (i : Int)) (S := fun i => ((fold0 m i : Nat) : Int)) (n := n) (fun i hi => by
    unfold m_Order_least_b1
    rw [h.meets]
    have h1 := atI2 (R := fun a b => some ((m a b : Nat) : Int)) (fold0_lub L.m L.o.op L.lo i (by omega)).1 hi
    rw [h1]
    rfl)
  show ((forS (m_Order_least_b1 o) (tab n fun i => (i : Int)) (((fold0 m 0 : Nat)) : Int)).bind some) = _
  rw [this]
  rfl
theorem greatest_eq (h : IsOrd n le j m o) (L : Lat n le j m) : ∃ z : Nat, m_Order_greatest o = some (z : Int) ∧ z < n ∧ ∀ a, a < n → le a z = true := by
  obtain ⟨h1, h2⟩ := fold0_lub L.j L.o L.lo n (Nat.le_refl n)
  refine ⟨fold0 j n, ?_, h1, h2⟩
  unfold m_Order_greatest
  simp only [Option.bind_eq_bind, bs]
  rw [h.members]
  have := forS_tab (body := m_Order_greatest_b1 o) (a := fun i => (i : Int)) (S := fun i => ((fold0 j i : Nat) : Int)) (n := n) (fun i hi => by
    unfold m_Order_greatest_b1
    rw [h.joins]
    have h1 := atI2 (R := fun a b => some ((j a b : Nat) : Int)) (fold0_lub L.j L.o L.lo i (by omega)).1 hi
    rw [h1]
    rfl)
  show ((forS (m_Order_greatest_b1 o) (tab n fun i => (i : Int)) (((fold0 j 0 : Nat)) : Int)).bind some) = _
  rw [this]
  rfl
end
/-! ### all related pairs -/
def relp (ms : List Nat) : List (Int × Int) := (List.range ms.length).flatMap fun a => (List.range ms.length).flatMap fun b => if (!(a == b) && mle ms a b) = true then [((a : Int), (b : Int))] else []
theorem relp_mem {ms : List Nat} {p : Int × Int} : p ∈ relp ms ↔ ∃ a b, a < ms.length ∧ b < ms.length ∧ (!(a == b) && mle ms a b) = true ∧ p = ((a : Int), (b : Int)) := by
  unfold relp
  rw [List.mem_flatMap]
  constructor
  · rintro ⟨a, ha, h⟩
    obtain ⟨b, hb, h⟩ := List.mem_flatMap.mp h
    split at h
    · rename_i hc
      exact ⟨a, b, List.mem_range.mp ha, List.mem_range.mp hb, hc, List.mem_singleton.mp h⟩
    · cases h
  · rintro ⟨a, b, ha, hb, hc, rfl⟩
    refine ⟨a, List.mem_range.mpr ha, List.mem_flatMap.mpr ⟨b, List.mem_range.mpr hb, ?_⟩⟩
    rw [if_pos hc]
    exact List.mem_singleton.mpr rfl
theorem relp_len (ms : List Nat) : (relp ms).length ≤ ms.length * ms.length := by
  have := flat_len (f := fun a => (List.range ms.length).flatMap fun b => if (!(a == b) && mle ms a b) = true then [((a : Int), (b : Int))] else []) (k := ms.length) (xs := List.range ms.length) (fun a _ => by
    have := flat_len (f := fun b => if (!(a == b) && mle ms a b) = true then [((a : Int), (b : Int))] else []) (k := 1) (xs := List.range ms.length) (fun x _ => by split <;> simp)
    simpa using this)
  rw [List.length_range] at this
  exact this
theorem pairs_eq {ms : List Nat} (hl : ms.length ≤ 12) : m__law_pairs (nts ms) = some (relp ms) := by
  unfold m__law_pairs
  simp only [Option.bind_eq_bind, bs, nts_len]
  rw [rngM0 (by omega)]
  simp only [bs]
  have h2 : ms.length * ms.length ≤ 144 := Nat.mul_le_mul hl hl
  have h3 := relp_len ms
  have := forS_flat (body := m__law_pairs_b1 (nts ms)) (a := fun i : Nat => (i : Int)) (f := fun a => (List.range ms.length).flatMap fun b => if (!(a == b) && mle ms a b) = true then [((a : Int), (b : Int))] else []) (B := 144) (xs := List.range ms.length) (s := []) (by
    intro a ha s hs
    have ha := List.mem_range.mp ha
    unfold m__law_pairs_b1
    simp only [Option.bind_eq_bind, bs, nts_len]
    rw [rngM0 (by omega)]
    simp only [bs]
    have := forS_flat (body := m__law_pairs_b2 (a : Int) (nts ms)) (a := fun i : Nat => (i : Int)) (f := fun b => if (!(a == b) && mle ms a b) = true then [((a : Int), (b : Int))] else []) (B := 144) (xs := List.range ms.length) (s := s) (by
      intro b hb s hs
      have hb := List.mem_range.mp hb
      unfold m__law_pairs_b2
      rw [under_eq ha hb]
      have e0 : ((a : Int) == (b : Int)) = (a == b) := by
        cases e : (a == b) with
        | true => rw [beq_iff_eq] at e; rw [e]; simp
        | false => rw [beq_eq_false_iff_ne] at e ⊢; omega
      rw [e0]
      have e1 : andO (some (!(a == b))) (some (mle ms a b)) = some (!(a == b) && mle ms a b) := by cases (a == b) <;> rfl
      rw [e1]
      simp only [Option.bind_eq_bind, bs]
      cases e : (!(a == b) && mle ms a b) with
      | true =>
        simp only [cond_true, bs]
        unfold appM
        rw [sz_t (by omega)]
        simp
      | false => simp) hs
    show ((forS (m__law_pairs_b2 (a : Int) (nts ms)) (List.map (fun i : Nat => (i : Int)) (List.range ms.length)) s).bind some) = _
    rw [this]
    rfl) (by simp only [List.length_nil, Nat.zero_add]; exact Nat.le_trans h3 h2)
  show ((forS (m__law_pairs_b1 (nts ms)) (List.map (fun i : Nat => (i : Int)) (List.range ms.length)) []).bind some) = _
  rw [this]
  rfl
theorem relp_gens {ms : List Nat} (h : Masks ms) : Gens ms.length (mle ms) (relp ms) where
  rg p hp := by obtain ⟨a, b, ha, hb, _, e⟩ := relp_mem.mp hp; exact ⟨a, b, ha, hb, e⟩
  sd a b ha hb hp := by
    obtain ⟨c, d, _, _, hc, e⟩ := relp_mem.mp hp
    rw [Prod.mk.injEq] at e
    have h1 : a = c := by omega
    have h2 : b = d := by omega
    subst h1 h2
    simp only [Bool.and_eq_true] at hc
    exact hc.2
  gn S rf tr st a b ha hb hle := by
    by_cases e : a = b
    · subst e; exact rf a ha
    · exact st a b ha hb (relp_mem.mpr ⟨a, b, ha, hb, by simp [e, hle], rfl⟩)
end My

namespace My
open PySem L2 Sim PyProof.Rows
/-! ### what an order refuses -/
def badE (v : Int) : Xn := ⟨"NotElement", [("value", .int v)]⟩
def inR (n : Nat) (x : Int) : Bool := !(decide (x < 0) || decide ((n : Int) ≤ x))
theorem inR_nat {n a : Nat} (h : a < n) : inR n (a : Int) = true := by unfold inR; simp; omega
theorem inR_of {n : Nat} {x : Int} (h : inR n x = true) : ∃ a : Nat, a < n ∧ x = (a : Int) := by
  unfold inR at h
  simp at h
  exact ⟨x.toNat, by omega, by omega⟩
theorem badE_val (v : Int) : xI (badE v) "value" = some v := rfl
theorem badE_cls (v : Int) : (["NotElement"] : List Str).contains (badE v).cls = true := by show (["NotElement"] : List Str).contains "NotElement" = true; decide
section
variable {n : Nat} {le : Nat → Nat → Bool} {j m : Nat → Nat → Nat} {o : m_Order}
def rq (n : Nat) (x y : Int) : Option Int := bif inR n x then (bif inR n y then none else some y) else some x
theorem requireX_eq (h : IsOrd n le j m o) (x y : Int) : m_Order__require_X o x y = some (match rq n x y with | none => .inr () | some v => .inl (badE v)) := by
  have b : ∀ z, m_Order__require_X_b1 o z () = some (bif inR n z then .nx () else .rt (.inl (badE z))) := fun z => by
    unfold m_Order__require_X_b1
    rw [h.members, tab_len]
    simp only [Option.bind_eq_bind, bs]
    unfold inR
    cases (decide (z < 0) || decide ((n : Int) ≤ z)) <;> rfl
  unfold m_Order__require_X
  simp only [Option.bind_eq_bind, bs]
  unfold rq
  cases e1 : inR n x with
  | false =>
    have : forL (m_Order__require_X_b1 o) [x, y] () = some (.inr (.inl (badE x))) := by
      show (m_Order__require_X_b1 o x () >>= stpK (forL (m_Order__require_X_b1 o) [y])) = _
      rw [b, e1]; rfl
    rw [this]; rfl
  | true =>
    cases e2 : inR n y with
    | false =>
      have : forL (m_Order__require_X_b1 o) [x, y] () = some (.inr (.inl (badE y))) := by
        show (m_Order__require_X_b1 o x () >>= stpK (forL (m_Order__require_X_b1 o) [y])) = _
        rw [b, e1]
        show (m_Order__require_X_b1 o y () >>= stpK (forL (m_Order__require_X_b1 o) [])) = _
        rw [b, e2]; rfl
      rw [this]; rfl
    | true =>
      have : forL (m_Order__require_X_b1 o) [x, y] () = some (.inl ()) := by
        show (m_Order__require_X_b1 o x () >>= stpK (forL (m_Order__require_X_b1 o) [y])) = _
        rw [b, e1]
        show (m_Order__require_X_b1 o y () >>= stpK (forL (m_Order__require_X_b1 o) [])) = _
        rw [b, e2]; rfl
      rw [this]; rfl
theorem rq_none {x y : Int} (h : rq n x y = none) : ∃ a b : Nat, a < n ∧ b < n ∧ x = (a : Int) ∧ y = (b : Int) := by
  unfold rq at h
  cases e1 : inR n x with
  | false => rw [e1] at h; cases h
  | true =>
    rw [e1] at h
    cases e2 : inR n y with
    | false => rw [e2] at h; cases h
    | true =>
      obtain ⟨a, ha, rfl⟩ := inR_of e1
      obtain ⟨b, hb, rfl⟩ := inR_of e2
      exact ⟨a, b, ha, hb, rfl, rfl⟩
theorem belowX_bad (h : IsOrd n le j m o) {x y v : Int} (e : rq n x y = some v) : m_Order_below_X o x y = some (.inl (badE v)) := by
  unfold m_Order_below_X
  rw [requireX_eq h, e]; rfl
theorem joinX_bad (h : IsOrd n le j m o) {x y v : Int} (e : rq n x y = some v) : m_Order_join_of_X o x y = some (.inl (badE v)) := by
  unfold m_Order_join_of_X
  rw [requireX_eq h, e]; rfl
theorem meetX_bad (h : IsOrd n le j m o) {x y v : Int} (e : rq n x y = some v) : m_Order_meet_of_X o x y = some (.inl (badE v)) := by
  unfold m_Order_meet_of_X
  rw [requireX_eq h, e]; rfl
theorem rq_nat {a b : Nat} (ha : a < n) (hb : b < n) : rq n (a : Int) (b : Int) = none := by unfold rq; rw [inR_nat ha, inR_nat hb]; rfl
theorem belowX_eq (h : IsOrd n le j m o) {a b : Nat} (ha : a < n) (hb : b < n) : m_Order_below_X o (a : Int) (b : Int) = some (.inr (le a b)) := by
  unfold m_Order_below_X
  rw [requireX_eq h, rq_nat ha hb, h.above]
  have h1 := atI2 (R := le) ha hb
  rw [h1]
  rfl
theorem joinX_eq (h : IsOrd n le j m o) {a b : Nat} (ha : a < n) (hb : b < n) : m_Order_join_of_X o (a : Int) (b : Int) = some (.inr ((j a b : Nat) : Int)) := by
  unfold m_Order_join_of_X
  rw [requireX_eq h, rq_nat ha hb, h.joins]
  have h1 := atI2 (R := fun a b => some ((j a b : Nat) : Int)) ha hb
  rw [h1]
  rfl
theorem meetX_eq (h : IsOrd n le j m o) {a b : Nat} (ha : a < n) (hb : b < n) : m_Order_meet_of_X o (a : Int) (b : Int) = some (.inr ((m a b : Nat) : Int)) := by
  unfold m_Order_meet_of_X
  rw [requireX_eq h, rq_nat ha hb, h.meets]
  have h1 := atI2 (R := fun a b => some ((m a b : Nat) : Int)) ha hb
  rw [h1]
  rfl
end
end My

namespace My
open PySem L2 Sim PyProof.Rows
theorem int_eq (x : Int) : m__law_int x = some true := rfl
/-- z is a least one above all of vs -/
structure LubS (n : Nat) (le : Nat → Nat → Bool) (vs : List Nat) (z : Nat) : Prop where
  lt : z < n
  ub : ∀ a ∈ vs, le a z = true
  le : ∀ c, c < n → (∀ a ∈ vs, le a c = true) → le z c = true
theorem LubS.uniq {n : Nat} {le : Nat → Nat → Bool} {vs ws : List Nat} {z y : Nat} (O : Ord n le) (h : LubS n le vs z) (k : LubS n le ws y) (e : ∀ a, a ∈ vs ↔ a ∈ ws) : z = y :=
  O.an _ _ h.lt k.lt (h.le _ k.lt fun a ha => k.ub a ((e a).mp ha)) (k.le _ h.lt fun a ha => h.ub a ((e a).mpr ha))
section
variable {n : Nat} {le : Nat → Nat → Bool} {f : Nat → Nat → Nat}
theorem foldl_lub (L : Lub n le f) (O : Ord n le) : ∀ {vs : List Nat} {s : Nat}, s < n → (∀ a ∈ vs, a < n) → LubS n le (s :: vs) (vs.foldl f s)
  | [], s, hs, _ => ⟨hs, fun a ha => by rw [List.mem_singleton.mp ha]; exact O.rf s hs, fun c hc h => h s (List.mem_cons_self ..)⟩
  | v :: vs, s, hs, hv => by
    have hvn := hv v (List.mem_cons_self ..)
    have ih := foldl_lub L O (vs := vs) (s := f s v) (L.lt _ _ hs hvn) fun a ha => hv a (List.mem_cons_of_mem _ ha)
    have hf := ih.ub _ (List.mem_cons_self ..)
    refine ⟨ih.lt, fun a ha => ?_, fun c hc h => ih.le c hc fun a ha => ?_⟩
    · rcases List.mem_cons.mp ha with rfl | ha
      · exact O.tr _ _ _ hs (L.lt _ _ hs hvn) ih.lt (L.l _ _ hs hvn) hf
      · rcases List.mem_cons.mp ha with rfl | ha
        · exact O.tr _ _ _ hvn (L.lt _ _ hs hvn) ih.lt (L.r _ _ hs hvn) hf
        · exact ih.ub a (List.mem_cons_of_mem _ ha)
    · rcases List.mem_cons.mp ha with rfl | ha
      · exact L.le _ _ _ hs hvn hc (h s (List.mem_cons_self ..)) (h v (List.mem_cons_of_mem _ (List.mem_cons_self ..)))
      · exact h a (List.mem_cons_of_mem _ (List.mem_cons_of_mem _ ha))
theorem LubS.bot {vs : List Nat} {s z : Nat} (h : LubS n le (s :: vs) z) (hb : ∀ a, a < n → le s a = true) : LubS n le vs z :=
  ⟨h.lt, fun a ha => h.ub a (List.mem_cons_of_mem _ ha), fun c hc k => h.le c hc fun a ha => by
    rcases List.mem_cons.mp ha with rfl | ha
    · exact hb c hc
    · exact k a ha⟩
end
section
variable {n : Nat} {le : Nat → Nat → Bool} {j m : Nat → Nat → Nat} {o : m_Order}
theorem forS_fold {body : Int → Int → Option Int} {f : Nat → Nat → Nat} (hf : ∀ a b, a < n → b < n → f a b < n ∧ body (b : Int) (a : Int) = some ((f a b : Nat) : Int)) : ∀ {vs : List Nat} {s : Nat}, s < n → (∀ a ∈ vs, a < n) → forS body (nts vs) (s : Int) = some ((vs.foldl f s : Nat) : Int)
  | [], s, _, _ => rfl
  | v :: vs, s, hs, hv => by
    obtain ⟨h1, h2⟩ := hf s v hs (hv v (List.mem_cons_self ..))
    show (body (v : Int) (s : Int) >>= forS body (nts vs)) = _
    rw [h2]
    exact forS_fold hf h1 fun a ha => hv a (List.mem_cons_of_mem _ ha)
theorem join_all_eq (h : IsOrd n le j m o) (L : Lat n le j m) {vs : List Nat} (hv : ∀ a ∈ vs, a < n) : ∃ z : Nat, m_Order_join_all o (nts vs) = some (z : Int) ∧ LubS n le vs z := by
  obtain ⟨z, e, hz, hb⟩ := least_eq h L
  refine ⟨vs.foldl j z, ?_, (foldl_lub L.j L.o hz hv).bot hb⟩
  unfold m_Order_join_all
  rw [e]
  simp only [Option.bind_eq_bind, bs]
  rw [forS_fold (n := n) (f := j) (fun a b ha hb => ⟨L.j.lt _ _ ha hb, by unfold m_Order_join_all_b1; rw [join_eq h ha hb]; rfl⟩) hz hv]
  rfl
theorem meet_all_eq (h : IsOrd n le j m o) (L : Lat n le j m) {vs : List Nat} (hv : ∀ a ∈ vs, a < n) : ∃ z : Nat, m_Order_meet_all o (nts vs) = some (z : Int) ∧ LubS n (fun a b => le b a) vs z := by
  obtain ⟨z, e, hz, hb⟩ := greatest_eq h L
  refine ⟨vs.foldl m z, ?_, (foldl_lub L.m L.o.op hz hv).bot hb⟩
  unfold m_Order_meet_all
  rw [e]
  simp only [Option.bind_eq_bind, bs]
  rw [forS_fold (n := n) (f := m) (fun a b ha hb => ⟨L.m.lt _ _ ha hb, by unfold m_Order_meet_all_b1; rw [meet_eq h ha hb]; rfl⟩) hz hv]
  rfl
theorem join_all_B (o : m_Order) (xs : List Int) : m_Order_join_all_B o xs = m_Order_join_all o xs := by
  unfold m_Order_join_all_B m_Order_join_all
  simp only [Option.bind_eq_bind, bs]
  rfl
theorem meet_all_B (o : m_Order) (xs : List Int) : m_Order_meet_all_B o xs = m_Order_meet_all o xs := by
  unfold m_Order_meet_all_B m_Order_meet_all
  simp only [Option.bind_eq_bind, bs]
  rfl
theorem forL_x {body : Int → Int → Option (Stp Int (Xn ⊕ Int))} {f : Nat → Nat → Nat} (hf : ∀ a b, a < n → b < n → f a b < n ∧ body (b : Int) (a : Int) = some (.nx ((f a b : Nat) : Int))) (hx : ∀ a x, a < n → inR n x = false → body x (a : Int) = some (.rt (.inl (badE x)))) :
    ∀ {xs : List Int} {s : Nat}, s < n → ∃ z : Nat, forL body xs (s : Int) = some (match xs.find? (fun x => !inR n x) with | some v => .inr (.inl (badE v)) | none => .inl (z : Int))
  | [], s, _ => ⟨s, rfl⟩
  | x :: xs, s, hs => by
    cases e : inR n x with
    | false =>
      refine ⟨0, ?_⟩
      show (body x (s : Int) >>= stpK (forL body xs)) = _
      rw [hx s x hs e, List.find?_cons, e]; rfl
    | true =>
      obtain ⟨b, hb, rfl⟩ := inR_of e
      obtain ⟨h1, h2⟩ := hf s b hs hb
      obtain ⟨z, hz⟩ := forL_x hf hx (xs := xs) h1
      refine ⟨z, ?_⟩
      show (body (b : Int) (s : Int) >>= stpK (forL body xs)) = _
      rw [h2, List.find?_cons, e]
      exact hz
theorem list_refused_eq (h : IsOrd n le j m o) (L : Lat n le j m) (d : Int) (xs : List Int) : m__law_list_refused o d xs = some (xs.find? fun x => !inR n x) := by
  obtain ⟨z, e, hz, _⟩ := least_eq h L
  obtain ⟨t, e', ht, _⟩ := greatest_eq h L
  obtain ⟨z1, k1⟩ := forL_x (n := n) (body := m_Order_join_all_X_b1 o) (f := j) (fun a b ha hb => ⟨L.j.lt _ _ ha hb, by unfold m_Order_join_all_X_b1; rw [joinX_eq h ha hb]; rfl⟩)
    (fun a x ha hx => by unfold m_Order_join_all_X_b1; rw [joinX_bad h (v := x) (by unfold rq; rw [inR_nat ha, hx]; rfl)]; rfl) (xs := xs) hz
  obtain ⟨z2, k2⟩ := forL_x (n := n) (body := m_Order_meet_all_X_b1 o) (f := m) (fun a b ha hb => ⟨L.m.lt _ _ ha hb, by unfold m_Order_meet_all_X_b1; rw [meetX_eq h ha hb]; rfl⟩)
    (fun a x ha hx => by unfold m_Order_meet_all_X_b1; rw [meetX_bad h (v := x) (by unfold rq; rw [inR_nat ha, hx]; rfl)]; rfl) (xs := xs) ht
  unfold m__law_list_refused m_Order_join_all_X m_Order_meet_all_X
  rw [e, e']
  simp only [Option.bind_eq_bind, bs]
  rw [k1, k2]
  cases xs.find? (fun x => !inR n x) with
  | none => cases (d == 0) <;> rfl
  | some v => cases (d == 0) <;> rfl
end
section
variable {ms : List Nat}
theorem under_all {vs : List Nat} {c : Nat} (hc : c < ms.length) (hv : ∀ a ∈ vs, a < ms.length) (hl : vs.length < 1000) : mapS (fun x => m__law_under (nts ms) x (c : Int)) (nts vs) = some (vs.map fun a => mle ms a c) := by
  unfold mapS
  rw [nts_len, sz_t (by omega)]
  exact mapO_map fun a ha => under_eq (hv a ha) hc
theorem over_all {vs : List Nat} {c : Nat} (hc : c < ms.length) (hv : ∀ a ∈ vs, a < ms.length) (hl : vs.length < 1000) : mapS (fun x => m__law_under (nts ms) (c : Int) x) (nts vs) = some (vs.map fun a => mle ms c a) := by
  unfold mapS
  rw [nts_len, sz_t (by omega)]
  exact mapO_map fun a ha => under_eq hc (hv a ha)
theorem all_id {vs : List Nat} {p : Nat → Bool} : (vs.map p).all id = vs.all p := by rw [List.all_map]; rfl
theorem joins_list_eq {vs : List Nat} {z : Nat} (hl : ms.length ≤ 12) (hv : ∀ a ∈ vs, a < ms.length) (hn : vs.length < 1000) (h : LubS ms.length (mle ms) vs z) : m__law_joins_list (nts ms) (nts vs) (z : Int) = some true := by
  unfold m__law_joins_list
  rw [int_eq, nts_len, natIn h.lt, under_all h.lt hv hn]
  simp only [Option.bind_eq_bind, bs, orF, Bool.not_true, cond_false, all_id]
  rw [List.all_eq_true.mpr h.ub]
  simp only [Bool.not_true, cond_false]
  rw [rngM0 (by omega)]
  simp only [bs]
  rw [forL_nxT]
  · rfl
  · intro i hi
    unfold m__law_joins_list_b1
    rw [under_all hi hv hn, under_eq h.lt hi]
    simp only [Option.bind_eq_bind, bs, all_id]
    cases e : vs.all fun a => mle ms a i with
    | false => rfl
    | true => rw [h.le i hi (List.all_eq_true.mp e)]; rfl
theorem meets_list_eq {vs : List Nat} {z : Nat} (hl : ms.length ≤ 12) (hv : ∀ a ∈ vs, a < ms.length) (hn : vs.length < 1000) (h : LubS ms.length (fun a b => mle ms b a) vs z) : m__law_meets_list (nts ms) (nts vs) (z : Int) = some true := by
  unfold m__law_meets_list
  rw [int_eq, nts_len, natIn h.lt, over_all h.lt hv hn]
  simp only [Option.bind_eq_bind, bs, orF, Bool.not_true, cond_false, all_id]
  rw [List.all_eq_true.mpr h.ub]
  simp only [Bool.not_true, cond_false]
  rw [rngM0 (by omega)]
  simp only [bs]
  rw [forL_nxT]
  · rfl
  · intro i hi
    unfold m__law_meets_list_b1
    rw [over_all hi hv hn, under_eq hi h.lt]
    simp only [Option.bind_eq_bind, bs, all_id]
    cases e : vs.all fun a => mle ms i a with
    | false => rfl
    | true => rw [show mle ms i z = true from h.le i hi (List.all_eq_true.mp e)]; rfl
end
theorem nts_rev (vs : List Nat) : (nts vs).reverse = nts vs.reverse := by simp [nts]
theorem nts_app (vs ws : List Nat) : nts vs ++ nts ws = nts (vs ++ ws) := by simp [nts]
theorem cat_nts {vs ws : List Nat} (h : vs.length + ws.length < 1000) : catM (nts vs) (nts ws) = some (nts (vs ++ ws)) := by
  unfold catM
  rw [nts_len, nts_len, decide_eq_true (by omega : vs.length + ws.length < 100000), nts_app]; rfl
theorem find_nts {n : Nat} {vs : List Nat} (hv : ∀ a ∈ vs, a < n) : (nts vs).find? (fun x => !inR n x) = none := by
  rw [List.find?_eq_none]
  intro x hx
  obtain ⟨a, ha, rfl⟩ := List.mem_map.mp hx
  rw [inR_nat (hv a ha)]; simp
theorem find_pre {n : Nat} {vs : List Nat} {b : Int} {ys : List Int} (hv : ∀ a ∈ vs, a < n) (hb : inR n b = false) : (nts vs ++ b :: ys).find? (fun x => !inR n x) = some b := by
  rw [List.find?_append, find_nts hv, List.find?_cons, hb]; rfl
theorem ins_any {α : Type} {xs : List α} {k : Nat} {x : α} (h : xs.length < 1000) (hk : k ≤ xs.length) : insM xs (k : Int) x = some (xs.take k ++ x :: xs.drop k) := by
  unfold insM
  rw [if_pos ⟨sz_t (by omega), by omega, by omega⟩]
  simp
theorem bads_at {n f : Nat} {k : Nat} (hk : k < 3) : ∃ v : Int, atI ([((n : Int) + (f : Int)), (100000000000000000 : Int), ((-(1 : Int)) - (f : Int))]) (k : Int) = some v ∧ (n ≤ 12 → inR n v = false) := by
  rw [atI_nat (by simpa using hk)]
  match k, hk with
  | 0, _ => exact ⟨_, rfl, fun _ => by unfold inR; simp; omega⟩
  | 1, _ => exact ⟨_, rfl, fun _ => by unfold inR; simp; omega⟩
  | 2, _ => exact ⟨_, rfl, fun _ => by unfold inR; simp; omega⟩
theorem draw_z (pot : List Int) {z : Int} (n : Nat) (h : 0 < n) (hz : z = (n : Int)) : ∃ (v : Nat) (pot' : List Int), m__law_draw pot z = some ((v : Int), pot') ∧ v < n := draw_lit pot n h hz
theorem law_true (ns : List Int) : m_law ns = some true := by
  obtain ⟨pot, e⟩ := pot_eq ns
  unfold m_law
  rw [e]
  simp only [Option.bind_eq_bind, bs]
  obtain ⟨ms, p1, e, hM, hl⟩ := masks_eq pot (most := 9) (by decide)
  have e : m__law_masks pot 9 = some (nts ms, p1) := e
  rw [e]
  simp only [bs, nts_len]
  have hl : ms.length ≤ 12 := by omega
  rw [pairs_eq hl]
  simp only [bs]
  have L := mLat hM hl
  obtain ⟨o, e, hO⟩ := Order_init_eq L (relp_gens hM)
  rw [e]
  simp only [bs]
  obtain ⟨q, p2, e, hq⟩ := draw_lit p1 10 (by decide) (z := 10) rfl
  rw [e]
  simp only [bs]
  rw [rngM0 (by omega)]
  simp only [bs]
  obtain ⟨⟨p3, sv⟩, e, vs, rfl, hv, hn⟩ := forS_keep (body := m_law_b1 (ms.length : Int)) (I := fun k s => ∃ vs, s.2 = nts vs ∧ (∀ a ∈ vs, a < ms.length) ∧ vs.length = k) (xs := tab q fun i => (i : Int)) (k := 0) (s := (p2, [])) ⟨[], rfl, by simp, rfl⟩ (by
    rintro x _ k ⟨pp, s⟩ _ hk ⟨vs, rfl, hv, hn⟩
    rw [tab_len] at hk
    unfold m_law_b1
    simp only [Option.bind_eq_bind, bs]
    obtain ⟨g, p', e, hg⟩ := draw_eq pp hM.ne
    rw [e]
    simp only [bs]
    unfold appM
    rw [nts_len, sz_t (by omega)]
    simp only [cond_true, bs]
    exact ⟨_, rfl, vs ++ [g], by simp [nts], fun a ha => by
      rcases List.mem_append.mp ha with ha | ha
      · exact hv a ha
      · rw [List.mem_singleton.mp ha]; exact hg, by simp [hn]⟩)
  rw [tab_len, Nat.zero_add] at hn
  rw [e]
  simp only [bs]
  obtain ⟨z, ez, hz⟩ := join_all_eq hO L hv
  obtain ⟨t, et, ht⟩ := meet_all_eq hO L hv
  rw [join_all_B, meet_all_B, ez, et]
  simp only [bs, decide_true, Bool.not_true, orF]
  rw [joins_list_eq hl hv (by omega) hz, meets_list_eq hl hv (by omega) ht]
  simp only [bs, Bool.not_true, orF, cond_false, nts_rev]
  have hvr : ∀ a ∈ vs.reverse, a < ms.length := fun a ha => hv a (List.mem_reverse.mp ha)
  have hvc : ∀ a ∈ vs ++ vs.reverse, a < ms.length := fun a ha => by rcases List.mem_append.mp ha with h | h; exact hv a h; exact hvr a h
  have hvd : ∀ a ∈ vs.reverse ++ vs, a < ms.length := fun a ha => by rcases List.mem_append.mp ha with h | h; exact hvr a h; exact hv a h
  obtain ⟨z1, e1, h1⟩ := join_all_eq hO L hvr
  obtain ⟨t1, k1, g1⟩ := meet_all_eq hO L hvr
  obtain ⟨z2, e2, h2⟩ := join_all_eq hO L hvc
  obtain ⟨t2, k2, g2⟩ := meet_all_eq hO L hvd
  have q1 : z1 = z := h1.uniq L.o hz (by simp)
  have q2 : t1 = t := g1.uniq L.o.op ht (by simp)
  have q3 : z2 = z := h2.uniq L.o hz (by simp)
  have q4 : t2 = t := g2.uniq L.o.op ht (by simp)
  subst q1 q2 q3 q4
  rw [e1, k1, cat_nts (by simp; omega), cat_nts (by simp; omega)]
  simp only [bs, beq_self_eq_true, Bool.not_true, orF, cond_false]
  rw [e2, k2]
  simp only [bs, beq_self_eq_true, Bool.not_true, orF, cond_false]
  obtain ⟨f, p4, e, _⟩ := draw_lit p3 7 (by decide) (z := 7) rfl
  rw [e]
  simp only [bs]
  rw [show powM (10 : Int) (17 : Int) = some 100000000000000000 by rfl]
  simp only [bs]
  obtain ⟨b1, p5, e, hb1⟩ := draw_lit p4 3 (by decide) (z := 3) rfl
  rw [e]
  simp only [bs]
  obtain ⟨v, e, hv1⟩ := bads_at (n := ms.length) (f := f) hb1
  rw [e]
  simp only [bs]
  obtain ⟨b2, p6, e, hb2⟩ := draw_lit p5 3 (by decide) (z := 3) rfl
  rw [e]
  simp only [bs]
  obtain ⟨u, e, hu1⟩ := bads_at (n := ms.length) (f := f) hb2
  rw [e]
  simp only [bs, nts_len]
  obtain ⟨pl, p7, e, hpl⟩ := draw_z p6 (vs.length + 1) (by omega) (z := (vs.length : Int) + 1) (by omega)
  rw [e]
  simp only [bs]
  rw [ins_any (by rw [nts_len]; omega) (by rw [nts_len]; omega)]
  simp only [bs]
  have el : ((nts vs).take pl ++ v :: (nts vs).drop pl).length = vs.length + 1 := by simp [nts]; omega
  rw [el]
  obtain ⟨k, p8, e, hk⟩ := draw_z p7 (vs.length + 1 - pl) (by omega) (z := ((vs.length + 1 : Nat) : Int) - (pl : Int)) (by omega)
  rw [e]
  simp only [bs]
  rw [show (pl : Int) + 1 + (k : Int) = ((pl + 1 + k : Nat) : Int) by omega, ins_any (by rw [el]; omega) (by rw [el]; omega)]
  simp only [bs]
  rw [list_refused_eq hO L, list_refused_eq hO L, find_nts hv]
  simp only [bs, Option.isSome_none, orF, cond_false]
  have ep : ((nts vs).take pl ++ v :: (nts vs).drop pl).take (pl + 1 + k) = nts (vs.take pl) ++ v :: ((nts vs).drop pl).take k := by
    rw [List.take_append]
    have h1 : ((nts vs).take pl).length = pl := by simp [nts]; omega
    rw [h1, List.take_of_length_le (by rw [h1]; omega), show pl + 1 + k - pl = k + 1 by omega, List.take_succ_cons]
    simp [nts]
  rw [ep, List.append_assoc, List.cons_append, list_refused_eq hO L, list_refused_eq hO L, find_pre (fun a ha => hv a (List.mem_of_mem_take ha)) (hv1 hl)]
  simp [andO]
end My

set_option maxHeartbeats 0
namespace My
open PySem PySem.Spec PyProof.Rows L2 Sim
abbrev Rw1 : PySem.W.OpenRow := PySem.W.OpenLaw.row PySem.Challenge.rw_askedpoints_k07_joins_of_lists
abbrev hk : PySem.W.Hook := hookX 5 fa fn ex xs gs P.main.file
def ob (s : PySem.W.SharedT) : AlX := obsXG 5 fa fn ex xs gs P.main.file (HandSHeadRun.getT s)
theorem ob_eq (s : PySem.W.SharedT) : ob s = hk.obs s.abs := obsXG_eq (HandSHeadRun.getT_eq s)
def loose0 : List PySem.Str := ["_wall", "AskedError", "BadSize", "NotElement", "Ring", "NoJoin", "NoMeet", "closure", "turned", "least_above", "bounds_table", "first_ring", "first_lack", "longest", "neighbours"]
def loose1 : List PySem.Str := ["Order", "_law_pot", "_law_draw", "_law_int", "_law_masks", "_law_under", "_law_pairs", "_law_joins_list", "_law_meets_list", "_law_list_refused"]
def loose : List PySem.Str := loose0 ++ (loose1)
theorem run (w : World) : HandSHeadRun.RunEq Rw1 (PySem.W.view Rw1.prog [29]) hk ob 4000 loose w := by
  intro os
  kernel_rfl
theorem glo_law (K : PySem.W.Frag) (mg : Str → Option Value) (T : Tx K mg) : mg "law" = some (.ref (He.ga K "law")) := T.glo 25 rfl
end My
open PySem PySem.W PySem.Calls PyProof.Rows
theorem PySem.Challenge.cw_askedpoints_k07_joins_of_lists_holds : PySem.Challenge.rw_askedpoints_k07_joins_of_lists.Holds := by
  w_on; o_law
  refine HandSHeadRun.head_any (r := OpenLaw.row PySem.Challenge.rw_askedpoints_k07_joins_of_lists) (q := view (OpenLaw.row PySem.Challenge.rw_askedpoints_k07_joins_of_lists).prog [29]) (H := My.hk) (ob := My.ob) (M := 4000) (loose := My.loose) (d := HandSHeadRun.topDef (OpenLaw.row PySem.Challenge.rw_askedpoints_k07_joins_of_lists).prog 29) (kwd := []) My.ob_eq
    (by kernel_rfl) (fun s => by kernel_rfl) My.run (by kernel_rfl) (by kernel_rfl) (by kernel_rfl) (by rfl) (by first | assumption | decide +kernel) (by decide +kernel) ⟨rfl, rfl, rfl, rfl, rfl, by decide +kernel⟩ ?hw ?hc
  case hw => w_witness2
  case hc =>
    refine L2.walk_ofE (l := PySem.Challenge.rw_askedpoints_k07_joins_of_lists) (n := 63) (k := 7) (x := "_law_script") (CX := L2.CX0) rfl (by decide) (by kernel_rfl) ⟨rfl, by decide, by decide⟩ ?F (fun _ _ _ _ z => z)
    intro w mg fa h Y G hmg0
    obtain ⟨K, KX, c⟩ := Y
    have T : My.Tx K mg := Sim.TxX.mk' KX G c
    have e : (HandSHeadRun.topDef (OpenLaw.row PySem.Challenge.rw_askedpoints_k07_joins_of_lists).prog 29).name = ("law" : PySem.Str) := by kernel_rfl
    rw [e, My.glo_law K mg T] at hmg0
    cases hmg0
    obtain ⟨fd, F, hF⟩ := My.ok_law (w := w) T
    exact ⟨K, fd, _, KX, fun s u => F.bindsA (ps := ["_law_script"]) (fun kV doc pm an cdv ct us hl => by (cases us with | nil => cases hl | cons a t => cases t with | nil => rfl | cons b t => cases hl)) s [u] rfl, fun H a ns hl _ hS => ⟨H, (ns, ()), true, Evl.Ex.refl _, ⟨.ref a, [], rfl, ⟨a, rfl, hS⟩, rfl⟩, My.law_true ns, fun v H2 G2 u hv => hv⟩, fun base _ _ => hF base⟩
