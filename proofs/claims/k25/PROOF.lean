import PyProof.Rows.All
import Wide.All
import OpenK.AllK
import Wide.FinOn
import HandS.ForMost
import HandS.Evl
import HandS.SortInts
import HandS.Wide
import HandS.More
import HandS.IsInst
import HandS.Defaults
import HandS.HeadHook1
import HandS.HeadHook2
import KE.DataEq
import HandS.HeadHook3
import HandS.Exc
import HandS.Conv
import KE.KSuper
import KE.KExcSuper
import HandS.ExcInit
import HandS.Nested
import KE.KExcInit
import HandS.ExcField
import HandS.ExcIs
import HandS.ExcOwn
import HandS.TryMany
import HandS.CallSlots
import HandS.Property
import HandS.Style
import HandS.ClsMeth
import HandS.IterNext
import HandS.IterVal
import HandS.OwnIter
import KE.KOwnIter
import HandS.Slots
import HandS.SlotsOwn
import HandS.DictComp
import PyProof.StrBlock2
import HandS.Text
import HandS.FStr
import HandS.Zip
import KE.KCallOwn
import HandS.CallLocal
import HandS.Finally
import KE.KLam
import HandS.NestedK
import HandS.Lambda
import KE.KNestM
import HandS.EndTab
import HandS.HeadWalk
import HandS.HeadHook4
import KE.KStateDown
import Lean
import HandS.WordsExc
import HandS.Head0
import HandS.Head1
import HandS.Head2
import HandS.HeadEnd
import KE.KxLen
import PySem.Challenge.RW_askedpoints_k25_values_clash_shown_by_ta
set_option Elab.async false
set_option linter.all false
set_option maxRecDepth 100000
/-! Sim: what a reading does, told by plain Lean data (mirrors). -/
namespace Sim
open PySem L2 Evl

/-! ### heaps: the data heap G below the heap H -/
structure Up (G H G2 H2 : Hp) : Prop where
  gg : Ex G G2
  gh : Ex G2 H2
  hh : Ex H H2
  nw : ∀ a, H a ≠ none → G a = none → G2 a = none
theorem Up.refl {G H : Hp} (e : Ex G H) : Up G H G H := ⟨Ex.refl _, e, Ex.refl _, fun _ _ h => h⟩
theorem Up.trans {G H G1 H1 G2 H2 : Hp} (a : Up G H G1 H1) (b : Up G1 H1 G2 H2) : Up G H G2 H2 :=
  ⟨a.gg.trans b.gg, b.gh, a.hh.trans b.hh, fun x h1 h2 => b.nw x (fun z => h1 (by
    cases q : H x with
    | none => rfl
    | some o => rw [a.hh x o q] at z; cases z)) (a.nw x h1 h2)⟩
/-- nothing new is data -/
theorem Up.same {G H H2 : Hp} (e : Ex G H) (h : Ex H H2) : Up G H G H2 := ⟨Ex.refl _, e.trans h, h, fun _ _ q => q⟩
theorem Up.lift {G Gw H G2 H2 : Hp} (u : Up G H G2 H2) (e1 : Ex G Gw) (e2 : Ex Gw H) : ∃ G3, Up Gw H G3 H2 ∧ Ex G2 G3 := by
  refine ⟨fun a => match H a with | none => G2 a | some _ => Gw a, ⟨fun a o h => ?_, fun a o h => ?_, u.hh, fun a h1 h2 => ?_⟩, fun a o h => ?_⟩
  · show (match H a with | none => G2 a | some _ => Gw a) = some o
    rw [e2 a o h]; exact h
  · have h' : (match H a with | none => G2 a | some _ => Gw a) = some o := h
    cases q : H a with
    | none => rw [q] at h'; exact u.gh a o h'
    | some o' =>
      rw [q] at h'
      exact u.hh a o (e2 a o h')
  · show (match H a with | none => G2 a | some _ => Gw a) = none
    cases q : H a with
    | none => exact absurd q h1
    | some o' => exact h2
  · show (match H a with | none => G2 a | some _ => Gw a) = some o
    cases q : H a with
    | none => exact h
    | some o' =>
      show Gw a = some o
      cases r : G a with
      | none => rw [u.nw a (by rw [q]; simp) r] at h; cases h
      | some o2 =>
        have := u.gg a o2 r
        rw [h] at this
        cases this
        exact e1 a _ r
theorem Up.lay {G H : Hp} {p : Addr} {o : HO} (e : Ex G H) (n : H p = none) : Up G H (upd G p o) (upd H p o) := by
  refine ⟨Ex.new (fresh_back e n), fun a u h => ?_, Ex.new n, fun a h1 h2 => ?_⟩
  · by_cases q : a = p
    · subst q; rw [upd_same] at h ⊢; exact h
    · rw [upd_ne q] at h ⊢; exact e a u h
  · by_cases q : a = p
    · subst q; exact absurd n h1
    · rw [upd_ne q]; exact h2

/-! ### data as it stands in a heap -/
structure Rep (α : Type) where
  r : Hp → V → α → Prop
  mono : ∀ {H H' : Hp} {v : V} {x : α}, Ex H H' → r H v x → r H' v x
/-- told by the value alone -/
def Rep.Sc {α : Type} (R : Rep α) : Prop := ∀ {H H' : Hp} {v : V} {x : α}, R.r H v x → R.r H' v x

def rI : Rep Int := ⟨fun _ v x => v = .int x, fun _ h => h⟩
def rB : Rep Bool := ⟨fun _ v x => v = .bl x, fun _ h => h⟩
def rS : Rep Str := ⟨fun _ v x => v = .str x, fun _ h => h⟩
def rU : Rep Unit := ⟨fun _ v _ => v = .non, fun _ h => h⟩
def rA : Rep Addr := ⟨fun _ v a => v = .ref a, fun _ h => h⟩
theorem scA : rA.Sc := fun h => h
theorem scI : rI.Sc := fun h => h
theorem scB : rB.Sc := fun h => h
theorem scS : rS.Sc := fun h => h
theorem scU : rU.Sc := fun h => h
def rL {α : Type} (R : Rep α) : Rep (List α) := ⟨fun H v xs => ∃ a vs, v = .ref a ∧ H a = some (.lst vs) ∧ Paired (R.r H) vs xs,
  fun e ⟨a, vs, h1, h2, h3⟩ => ⟨a, vs, h1, e a _ h2, Paired.mapP h3 fun _ _ => R.mono e⟩⟩
def rT {α : Type} (R : Rep α) : Rep (List α) := ⟨fun H v xs => ∃ a vs, v = .ref a ∧ H a = some (.tup vs) ∧ Paired (R.r H) vs xs,
  fun e ⟨a, vs, h1, h2, h3⟩ => ⟨a, vs, h1, e a _ h2, Paired.mapP h3 fun _ _ => R.mono e⟩⟩
def rP {α β : Type} (R : Rep α) (S : Rep β) : Rep (α × β) := ⟨fun H v p => ∃ a x y, v = .ref a ∧ H a = some (.tup [x, y]) ∧ R.r H x p.1 ∧ S.r H y p.2,
  fun e ⟨a, x, y, h1, h2, h3, h4⟩ => ⟨a, x, y, h1, e a _ h2, R.mono e h3, S.mono e h4⟩⟩
def rO {α : Type} (R : Rep α) : Rep (Option α) := ⟨fun H v o => match o with | none => v = .non | some x => R.r H v x,
  fun {H H' v o} e h => by cases o with | none => exact h | some x => exact R.mono e h⟩

theorem pr_get {R : V → α → Prop} : ∀ {vs : List V} {xs : List α} {i : Nat} {x : α}, Paired R vs xs → xs[i]? = some x → ∃ v, vs[i]? = some v ∧ R v x
  | _, _, _, _, .nil, e => by simp at e
  | _, _, 0, _, .cons r _, e => by simp at e; subst e; exact ⟨_, rfl, r⟩
  | _, _, i + 1, x, .cons _ t, e => by
    obtain ⟨u, h1, h2⟩ := pr_get (i := i) (x := x) t (by simpa using e)
    exact ⟨u, by simpa using h1, h2⟩
theorem pr_get' {R : V → α → Prop} : ∀ {vs : List V} {xs : List α} {i : Nat} {v : V}, Paired R vs xs → vs[i]? = some v → ∃ x, xs[i]? = some x ∧ R v x
  | _, _, _, _, .nil, e => by simp at e
  | _, _, 0, _, .cons r _, e => by simp at e; subst e; exact ⟨_, rfl, r⟩
  | _, _, i + 1, x, .cons _ t, e => by
    obtain ⟨u, h1, h2⟩ := pr_get' (i := i) (v := x) t (by simpa using e)
    exact ⟨u, by simpa using h1, h2⟩
theorem pr_app {R : V → α → Prop} : ∀ {vs : List V} {xs : List α} {vs' : List V} {xs' : List α}, Paired R vs xs → Paired R vs' xs' → Paired R (vs ++ vs') (xs ++ xs')
  | _, _, _, _, .nil, h => h
  | _, _, _, _, .cons r t, h => .cons r (pr_app t h)

/-! ### mirrors that may lack an answer -/
theorem bindS {α β : Type} {m : Option α} {f : α → Option β} {r : β} (h : (m >>= f) = some r) : ∃ x, m = some x ∧ f x = some r := by
  cases m with
  | none => exact absurd h (by simp)
  | some x => exact ⟨x, rfl, h⟩

/-! ### expressions -/
/-- te reads as m: the data heap is G, W is known to stand as well (cells that are only read) -/
def E {α : Type} (te : TE) (σ : L2.St) (G W : Hp) (R : Rep α) (m : Option α) : Prop :=
  ∀ x, m = some x → ∀ H, Ex G H → Ex W H → ∀ Q : VK, (∀ v H2 G2, Up G H G2 H2 → R.r G2 v x → Q v H2) → te σ H Q
def ET (tt : TT) (σ : L2.St) (W : Hp) (m : Option Bool) : Prop :=
  ∀ b, m = some b → ∀ H, Ex W H → ∀ Q : Bool → Hp → Prop, (∀ H2, Ex H H2 → Q b H2) → tt σ H Q
structure AR (ι : Type) where
  r : Hp → List V → ι → Prop
  mono : ∀ {H H' : Hp} {v : List V} {x : ι}, Ex H H' → r H v x → r H' v x
def aN : AR Unit := ⟨fun _ vs _ => vs = [], fun _ h => h⟩
def aC {α ι : Type} (R : Rep α) (A : AR ι) : AR (α × ι) := ⟨fun H vs p => ∃ v ws, vs = v :: ws ∧ R.r H v p.1 ∧ A.r H ws p.2,
  fun e ⟨v, ws, h1, h2, h3⟩ => ⟨v, ws, h1, R.mono e h2, A.mono e h3⟩⟩
def EA {ι : Type} (ta : TA) (σ : L2.St) (G W : Hp) (A : AR ι) (m : Option ι) : Prop :=
  ∀ x, m = some x → ∀ H, Ex G H → Ex W H → ∀ Q : List V → Hp → Prop, (∀ vs H2 G2, Up G H G2 H2 → A.r G2 vs x → Q vs H2) → ta σ H Q
section
variable {K : PySem.W.Frag} {σ : L2.St} {G H G' W W' : Hp} {ta tb te : TE} {t u : TT} {α β γ ι : Type} {R : Rep α} {S : Rep β} {T : Rep γ} {A : AR ι}
theorem E.mono {m : Option α} (e : Ex G G') (e' : Ex W W') (h : E te σ G W R m) : E te σ G' W' R m := fun x hx H e1 e2 Q q =>
  h x hx H (e.trans e1) (e'.trans e2) Q fun v H2 G2 up r => by
    obtain ⟨G3, u3, e3⟩ := up.lift e e1
    exact q v H2 G3 u3 (R.mono e3 r)
theorem ET.mono {m : Option Bool} (e : Ex W W') (h : ET t σ W m) : ET t σ W' m := fun x hx H e1 Q q => h x hx H (e.trans e1) Q q
theorem EA.mono {ta : TA} {m : Option ι} (e : Ex G G') (e' : Ex W W') (h : EA ta σ G W A m) : EA ta σ G' W' A m := fun x hx H e1 e2 Q q =>
  h x hx H (e.trans e1) (e'.trans e2) Q fun v H2 G2 up r => by
    obtain ⟨G3, u3, e3⟩ := up.lift e e1
    exact q v H2 G3 u3 (A.mono e3 r)
/-- a value that hangs on no heap -/
theorem E.s {m : Option α} (sc : R.Sc) (h : E te σ W W R m) : E te σ G W R m := fun x hx H e1 e2 Q q =>
  h x hx H e2 e2 Q fun v H2 G2 up r => q v H2 G (Up.same e1 up.hh) (sc r)
theorem e_var {i : Nat} {v : V} {x : α} (hi : σ[i]? = some (some v)) (hv : R.r G v x) : E (tVar i) σ G W R (some x) := fun y hy H e _ Q q => by
  cases hy
  exact ⟨v, hi, q v H G (Up.refl e) hv⟩
theorem e_c {v : V} {x : α} (hv : R.r G v x) : E (tC v) σ G W R (some x) := fun y hy H e _ Q q => by
  cases hy
  exact q v H G (Up.refl e) hv
theorem e_int {i : Int} : E (tC (.int i)) σ G W rI (some i) := e_c rfl
theorem e_bl {i : Bool} : E (tC (.bl i)) σ G W rB (some i) := e_c rfl
theorem e_str {i : Str} : E (tC (.str i)) σ G W rS (some i) := e_c rfl
theorem e_non : E (tC .non) σ G W rU (some ()) := e_c rfl
/-- an operator on values, as a mirror -/
def RR (r : R2) (R : Rep α) (S : Rep β) (T : Rep γ) (f : α → β → Option γ) : Prop :=
  ∀ v w x y z H G, R.r G v x → S.r G w y → f x y = some z → Ex G H → ∀ Q : VK, (∀ u H2 G2, Up G H G2 H2 → T.r G2 u z → Q u H2) → r v w H Q
theorem e_op {r : R2} {f : α → β → Option γ} {ma : Option α} {mb : Option β} (hr : RR r R S T f) (ha : E ta σ G W R ma) (hb : E tb σ G W S mb) :
    E (tOp r ta tb) σ G W T (ma >>= fun x => mb >>= fun y => f x y) := fun z hz H e e' Q q => by
  obtain ⟨x, hx, hz⟩ := bindS hz
  obtain ⟨y, hy, hz⟩ := bindS hz
  refine ha x hx H e e' _ fun v H1 G1 u1 r1 => ?_
  refine (hb.mono u1.gg (e'.trans u1.hh)) y hy H1 u1.gh (Ex.refl _) _ fun w H2 G2 u2 r2 => ?_
  exact hr v w x y z H2 G2 (R.mono u2.gg r1) r2 hz u2.gh Q fun u H3 G3 u3 r3 => q u H3 G3 ((u1.trans u2).trans u3) r3
theorem rr_I0 {g : Int → Int → V} {f : Int → Int → γ} (h : ∀ i j H, T.r H (g i j) (f i j)) : RR (rI0 g) rI rI T (fun i j => some (f i j)) := fun v w x y z H G hv hw hz e Q q => by
  cases hv; cases hw; cases hz
  exact ⟨x, y, rfl, rfl, q _ H G (Up.refl e) (h x y G)⟩
theorem rr_I {C : Int → Int → Prop} {g : Int → Int → V} {f : Int → Int → Option γ} (h : ∀ i j z, f i j = some z → C i j ∧ ∀ H, T.r H (g i j) z) : RR (L2.rI C g) rI rI T f := fun v w x y z H G hv hw hz e Q q => by
  cases hv; cases hw
  obtain ⟨h1, h2⟩ := h x y z hz
  exact ⟨x, y, rfl, rfl, h1, q _ H G (Up.refl e) (h2 G)⟩
end
end Sim

namespace Sim
open PySem L2 Evl

/-! ### cells: objects that change -/
structure CP where
  p : Hp → HO → Prop
  mono : ∀ {G G' : Hp} {o : HO}, Ex G G' → p G o → p G' o
def cL {α : Type} (R : Rep α) (xs : List α) : CP := ⟨fun G o => ∃ vs, o = .lst vs ∧ Paired (R.r G) vs xs, fun e ⟨vs, h1, h2⟩ => ⟨vs, h1, Paired.mapP h2 fun _ _ => R.mono e⟩⟩
abbrev Cs := List (Addr × CP)
structure Wd (G H : Hp) (cs : Cs) : Prop where
  ex : Ex G H
  at_ : ∀ c ∈ cs, G c.1 = none ∧ ∃ o, H c.1 = some o ∧ c.2.p G o
  nd : (cs.map (·.1)).Nodup
theorem Wd.nil {G H : Hp} (e : Ex G H) : Wd G H [] := ⟨e, fun _ h => absurd h List.not_mem_nil, List.nodup_nil⟩
section
variable {G H G2 H2 : Hp} {cs : Cs} {l : Addr} {cp cp' : CP}
theorem Wd.head (w : Wd G H ((l, cp) :: cs)) : G l = none ∧ ∃ o, H l = some o ∧ cp.p G o := w.at_ _ (List.mem_cons_self ..)
theorem Wd.tail (w : Wd G H ((l, cp) :: cs)) : Wd G H cs := ⟨w.ex, fun c h => w.at_ c (List.mem_cons_of_mem _ h), (List.nodup_cons.mp w.nd).2⟩
theorem Wd.up (w : Wd G H cs) (u : Up G H G2 H2) : Wd G2 H2 cs := ⟨u.gh, fun c h => by
  obtain ⟨h1, o, h2, h3⟩ := w.at_ c h
  exact ⟨u.nw _ (by rw [h2]; simp) h1, o, u.hh _ _ h2, c.2.mono u.gg h3⟩, w.nd⟩
theorem Wd.sc (w : Wd G H cs) (u : Ex H H2) : Wd G H2 cs := w.up (Up.same w.ex u)
theorem Wd.swap {l' : Addr} (w : Wd G H ((l, cp) :: (l', cp') :: cs)) : Wd G H ((l', cp') :: (l, cp) :: cs) := ⟨w.ex, fun c h => w.at_ c (by
  rcases List.mem_cons.mp h with h | h
  · subst h; exact List.mem_cons_of_mem _ (List.mem_cons_self ..)
  · rcases List.mem_cons.mp h with h | h
    · subst h; exact List.mem_cons_self ..
    · exact List.mem_cons_of_mem _ (List.mem_cons_of_mem _ h)), by
  have := w.nd
  simp only [List.map_cons, List.nodup_cons, List.mem_cons, not_or] at this ⊢
  exact ⟨⟨fun z => this.1.1 z.symm, this.2.1⟩, this.1.2, this.2.2⟩⟩
/-- the first cell moved behind the second and third -/
theorem Wd.rot3 {l' l'' : Addr} {cp'' : CP} (w : Wd G H ((l, cp) :: (l', cp') :: (l'', cp'') :: cs)) : Wd G H ((l'', cp'') :: (l, cp) :: (l', cp') :: cs) := ⟨w.ex, fun c h => w.at_ c (by
  simp only [List.mem_cons] at h ⊢
  rcases h with h | h | h | h <;> simp [h]), by
  have := w.nd
  simp only [List.map_cons, List.nodup_cons, List.mem_cons, not_or] at this ⊢
  obtain ⟨⟨a, b, c⟩, ⟨d, e⟩, f, g⟩ := this
  exact ⟨⟨fun z => b z.symm, fun z => d z.symm, f⟩, ⟨a, c⟩, e, g⟩⟩
/-- the first cell is written -/
theorem Wd.write (w : Wd G H ((l, cp) :: cs)) {o : HO} (h : cp'.p G o) : Wd G (upd H l o) ((l, cp') :: cs) := by
  refine ⟨fun a u e => ?_, fun c hc => ?_, w.nd⟩
  · rw [upd_ne (fun z => by subst z; rw [w.head.1] at e; cases e)]; exact w.ex a u e
  · rcases List.mem_cons.mp hc with hc | hc
    · subst hc; exact ⟨w.head.1, o, upd_same, h⟩
    · obtain ⟨h1, o', h2, h3⟩ := w.tail.at_ c hc
      have hne : c.1 ≠ l := fun z => (List.nodup_cons.mp w.nd).1 (by rw [← z]; exact List.mem_map_of_mem (f := (·.1)) hc)
      exact ⟨h1, o', by rw [upd_ne hne]; exact h2, h3⟩
/-- a new cell is laid -/
theorem Wd.new (w : Wd G H cs) {o : HO} (n : H l = none) (h : cp.p G o) : Wd G (upd H l o) ((l, cp) :: cs) := by
  refine ⟨w.ex.mut (fresh_back w.ex n), fun c hc => ?_, ?_⟩
  · rcases List.mem_cons.mp hc with hc | hc
    · subst hc; exact ⟨fresh_back w.ex n, o, upd_same, h⟩
    · obtain ⟨h1, o', h2, h3⟩ := w.at_ c hc
      exact ⟨h1, o', by rw [upd_ne (ne_of_none h2 n)]; exact h2, h3⟩
  · show (l :: cs.map (·.1)).Nodup
    refine List.nodup_cons.mpr ⟨fun hm => ?_, w.nd⟩
    obtain ⟨c, hc, e⟩ := List.mem_map.mp hm
    obtain ⟨_, o', h2, _⟩ := w.at_ c hc
    exact ne_of_none h2 n e
/-- a list cell becomes data -/
theorem Wd.freeze {α : Type} {R : Rep α} {xs : List α} (w : Wd G H ((l, cL R xs) :: cs)) : ∃ G2, Wd G2 H cs ∧ Ex G G2 ∧ (rL R).r G2 (.ref l) xs := by
  obtain ⟨h1, o, h2, vs, rfl, h3⟩ := w.head
  refine ⟨upd G l (.lst vs), ⟨fun a u e => ?_, fun c hc => ?_, w.tail.nd⟩, Ex.new h1, l, vs, rfl, upd_same, Paired.mapP h3 fun _ _ => R.mono (Ex.new h1)⟩
  · by_cases q : a = l
    · subst q; rw [upd_same] at e; cases e; exact h2
    · rw [upd_ne q] at e; exact w.ex a u e
  · obtain ⟨k1, o', k2, k3⟩ := w.tail.at_ c hc
    have hne : c.1 ≠ l := fun z => (List.nodup_cons.mp w.nd).1 (by rw [← z]; exact List.mem_map_of_mem (f := (·.1)) hc)
    exact ⟨by rw [upd_ne hne]; exact k1, o', k2, c.2.mono (Ex.new h1) k3⟩
/-- a cell read as it stands -/
theorem Wd.rl {α : Type} {R : Rep α} {xs : List α} (w : Wd G H ((l, cL R xs) :: cs)) : (rL R).r H (.ref l) xs := by
  obtain ⟨h1, o, h2, vs, rfl, h3⟩ := w.head
  exact ⟨l, vs, rfl, h2, Paired.mapP h3 fun _ _ => R.mono w.ex⟩
end
theorem Wd.rl1 {G H : Hp} {cs : Cs} {α : Type} {R : Rep α} {xs : List α} {l : Addr} {c : Addr × CP} (w : Wd G H (c :: (l, cL R xs) :: cs)) : (rL R).r H (.ref l) xs := w.tail.rl
theorem Wd.rl2 {G H : Hp} {cs : Cs} {α : Type} {R : Rep α} {xs : List α} {l : Addr} {c c' : Addr × CP} (w : Wd G H (c :: c' :: (l, cL R xs) :: cs)) : (rL R).r H (.ref l) xs := w.tail.tail.rl

/-! ### promises -/
/-- what is handed back is data -/
def PF {ι α : Type} (A : AR ι) (R : Rep α) (f : ι → Option α) : Sp := fun vs H Q _ => ∃ G i x, Ex G H ∧ A.r G vs i ∧ f i = some x ∧ ∀ v H2 G2, Up G H G2 H2 → R.r G2 v x → Q v H2
/-- a new list is handed back -/
def PL {ι α : Type} (A : AR ι) (R : Rep α) (f : ι → Option (List α)) : Sp := fun vs H Q _ => ∃ G i x, Ex G H ∧ A.r G vs i ∧ f i = some x ∧
  ∀ p H2 G2, H p = none → Up G H G2 H2 → Wd G2 H2 [(p, cL R x)] → Q (.ref p) H2
/-- cells change -/
structure Fr (G H G2 H2 : Hp) (ls : List Addr) : Prop where
  gg : Ex G G2
  fr : ∀ a o, H a = some o → a ∉ ls → H2 a = some o
  nw : ∀ a, H a ≠ none → G a = none → G2 a = none
  st : ∀ a, H a ≠ none → H2 a ≠ none
def PM {ι κ α : Type} (A : AR ι) (ci : ι → κ → Cs) (R : Rep α) (f : ι → κ → Option (α × κ)) : Sp := fun vs H Q _ => ∃ G i k x k', A.r G vs i ∧ Wd G H (ci i k) ∧ f i k = some (x, k') ∧
  ∀ v H2 G2, Fr G H G2 H2 ((ci i k).map (·.1)) → Wd G2 H2 (ci i k') → R.r G2 v x → Q v H2
def PML {ι κ α : Type} (A : AR ι) (ci : ι → κ → Cs) (R : Rep α) (f : ι → κ → Option (List α × κ)) : Sp := fun vs H Q _ => ∃ G i k x k', A.r G vs i ∧ Wd G H (ci i k) ∧ f i k = some (x, k') ∧
  ∀ p H2 G2, H p = none → Fr G H G2 H2 ((ci i k).map (·.1)) → Wd G2 H2 ((p, cL R x) :: ci i k') → Q (.ref p) H2
theorem Wd.app {G H : Hp} {a b : Cs} (w : Wd G H (a ++ b)) : Wd G H a ∧ Wd G H b := ⟨⟨w.ex, fun c h => w.at_ c (List.mem_append_left _ h), by
  have := w.nd; rw [List.map_append] at this; exact (List.nodup_append.mp this).1⟩, ⟨w.ex, fun c h => w.at_ c (List.mem_append_right _ h), by
  have := w.nd; rw [List.map_append] at this; exact (List.nodup_append.mp this).2.1⟩⟩
theorem Wd.join {G H G2 H2 : Hp} {a a' b : Cs} (w : Wd G H (a ++ b)) (f : Fr G H G2 H2 (a.map (·.1))) (w2 : Wd G2 H2 a') (e : a'.map (·.1) = a.map (·.1)) : Wd G2 H2 (a' ++ b) := by
  have nd : (a.map (·.1) ++ b.map (·.1)).Nodup := by have := w.nd; rw [List.map_append] at this; exact this
  refine ⟨w2.ex, fun c h => ?_, by rw [List.map_append, e]; exact nd⟩
  rcases List.mem_append.mp h with h | h
  · exact w2.at_ c h
  · obtain ⟨h1, o, h2, h3⟩ := w.app.2.at_ c h
    have hn : c.1 ∉ a.map (·.1) := fun z => (List.nodup_append.mp nd).2.2 _ z _ (List.mem_map_of_mem h) rfl
    exact ⟨f.nw _ (by rw [h2]; simp) h1, o, f.fr _ _ h2 hn, c.2.mono f.gg h3⟩
/-- the same, a new cell ahead -/
theorem Wd.joinN {G H G2 H2 : Hp} {a a' b : Cs} {p : Addr} {cp : CP} (w : Wd G H (a ++ b)) (f : Fr G H G2 H2 (a.map (·.1))) (hp : H p = none) (w2 : Wd G2 H2 ((p, cp) :: a')) (e : a'.map (·.1) = a.map (·.1)) : Wd G2 H2 ((p, cp) :: (a' ++ b)) := by
  have w3 := w.join f w2.tail e
  refine ⟨w3.ex, fun c h => ?_, ?_⟩
  · rcases List.mem_cons.mp h with h | h
    · subst h; exact w2.head
    · exact w3.at_ c h
  · show (p :: (a' ++ b).map (·.1)).Nodup
    refine List.nodup_cons.mpr ⟨fun hm => ?_, w3.nd⟩
    rw [List.map_append, e, ← List.map_append] at hm
    obtain ⟨c, hc, ec⟩ := List.mem_map.mp hm
    obtain ⟨_, o', h2, _⟩ := w.at_ c hc
    exact ne_of_none h2 hp ec
theorem Fr.refl {G H : Hp} {ls : List Addr} : Fr G H G H ls := ⟨Ex.refl _, fun _ _ h _ => h, fun _ _ h => h, fun _ h => h⟩
theorem some_ne {H H2 : Hp} (e : Ex H H2) {a : Addr} (h : H a ≠ none) : H2 a ≠ none := by
  cases q : H a with
  | none => exact absurd q h
  | some o => rw [e a o q]; simp
theorem Up.fr {G H G2 H2 : Hp} {ls : List Addr} (u : Up G H G2 H2) : Fr G H G2 H2 ls := ⟨u.gg, fun a o h _ => u.hh a o h, u.nw, fun a h => some_ne u.hh h⟩
theorem Fr.trans {G H G1 H1 G2 H2 : Hp} {ls : List Addr} (a : Fr G H G1 H1 ls) (b : Fr G1 H1 G2 H2 ls) : Fr G H G2 H2 ls :=
  ⟨a.gg.trans b.gg, fun x o h1 h2 => b.fr x o (a.fr x o h1 h2) h2, fun x h1 h2 => b.nw x (a.st x h1) (a.nw x h1 h2), fun x h => b.st x (a.st x h)⟩
/-- a frame of more cells, those that were not there ahead -/
theorem Fr.less {G H G2 H2 : Hp} {ls ms : List Addr} (a : Fr G H G2 H2 ms) (h : ∀ x ∈ ms, x ∈ ls ∨ H x = none) : Fr G H G2 H2 ls :=
  ⟨a.gg, fun x o h1 h2 => a.fr x o h1 fun z => (h x z).elim h2 fun q => absurd h1 (by rw [q]; simp), a.nw, a.st⟩
theorem Fr.write {G H : Hp} {l : Addr} {o : HO} : Fr G H G (upd H l o) [l] := ⟨Ex.refl _, fun a u h1 h2 => by rw [upd_ne (fun z => h2 (by rw [z]; exact List.mem_cons_self ..))]; exact h1, fun _ _ h => h, fun a h => by
  by_cases q : a = l
  · subst q; rw [upd_same]; simp
  · rw [upd_ne q]; exact h⟩
end Sim

namespace Sim
open PySem L2 Evl
section
variable {K : PySem.W.Frag} {σ : L2.St} {G H G' W W' : Hp} {ta tb te tc : TE} {t u : TT} {α β γ ι κ : Type} {R : Rep α} {S : Rep β} {T : Rep γ} {A : AR ι}

/-! ### mirrors of operations that may lack an answer -/
def mulM (a b : Int) : Option Int := if (-(2 ^ 64) < a ∧ a < 2 ^ 64) ∨ (-(2 ^ 64) < b ∧ b < 2 ^ 64) then some (a * b) else none
def modM (a b : Int) : Option Int := if 0 < b then some (a % b) else none
def fdivM (a b : Int) : Option Int := if 0 < b ∧ b < 1073741824 then some (a / b) else none
def andO (a : Option Bool) (b : Option Bool) : Option Bool := a >>= fun x => bif x then b else some false
def orO (a : Option Bool) (b : Option Bool) : Option Bool := a >>= fun x => bif x then some true else b
def iteO (c : Option Bool) (a b : Option α) : Option α := c >>= fun x => bif x then a else b

theorem rr_add : RR (rI0 fun i j => .int (i + j)) rI rI rI (fun i j => some (i + j)) := rr_I0 fun _ _ _ => rfl
theorem rr_sub : RR (rI0 fun i j => .int (i - j)) rI rI rI (fun i j => some (i - j)) := rr_I0 fun _ _ _ => rfl
theorem rr_mul : RR (L2.rI CMul fun i j => .int (i * j)) rI rI rI mulM := rr_I fun i j z h => by
  unfold mulM at h
  split at h
  · rename_i hc; cases h; exact ⟨hc, fun _ => rfl⟩
  · cases h
theorem rr_mod : RR (L2.rI (fun _ j => 0 < j) fun i j => .int (i % j)) rI rI rI modM := rr_I fun i j z h => by
  unfold modM at h
  split at h
  · rename_i hc; cases h; exact ⟨hc, fun _ => rfl⟩
  · cases h
theorem rr_fdiv : RR (L2.rI CDiv fun i j => .int (i / j)) rI rI rI fdivM := rr_I fun i j z h => by
  unfold fdivM at h
  split at h
  · rename_i hc; cases h; exact ⟨hc, fun _ => rfl⟩
  · cases h
theorem rr_and : RR (rI0 fun i j => .int (Builtin.bitAnd i j)) rI rI rI (fun i j => some (Builtin.bitAnd i j)) := rr_I0 fun _ _ _ => rfl
theorem rr_or : RR (rI0 fun i j => .int (Builtin.bitOr i j)) rI rI rI (fun i j => some (Builtin.bitOr i j)) := rr_I0 fun _ _ _ => rfl
theorem rr_lt : RR (rI0 fun i j => .bl (decide (i < j))) rI rI rB (fun i j => some (decide (i < j))) := rr_I0 fun _ _ _ => rfl
theorem rr_le : RR (rI0 fun i j => .bl (decide (i ≤ j))) rI rI rB (fun i j => some (decide (i ≤ j))) := rr_I0 fun _ _ _ => rfl
theorem rr_gt : RR (rI0 fun i j => .bl (decide (j < i))) rI rI rB (fun i j => some (decide (j < i))) := rr_I0 fun _ _ _ => rfl
theorem rr_ge : RR (rI0 fun i j => .bl (decide (j ≤ i))) rI rI rB (fun i j => some (decide (j ≤ i))) := rr_I0 fun _ _ _ => rfl
theorem rr_eqI : RR rEq rI rI rB (fun i j => some (i == j)) := fun v w x y z H G hv hw hz e Q q => by
  cases hv; cases hw; cases hz
  exact ⟨rfl, q _ H G (Up.refl e) (congrArg V.bl dec_int)⟩
theorem rr_neI : RR rNe rI rI rB (fun i j => some (!(i == j))) := fun v w x y z H G hv hw hz e Q q => by
  cases hv; cases hw; cases hz
  exact ⟨rfl, q _ H G (Up.refl e) (congrArg (fun b => V.bl (!b)) dec_int)⟩
theorem rr_eqB : RR rEq rB rB rB (fun i j => some (i == j)) := fun v w x y z H G hv hw hz e Q q => by
  cases hv; cases hw; cases hz
  exact ⟨rfl, q _ H G (Up.refl e) (congrArg V.bl dec_bl)⟩
theorem rr_neB : RR rNe rB rB rB (fun i j => some (!(i == j))) := fun v w x y z H G hv hw hz e Q q => by
  cases hv; cases hw; cases hz
  exact ⟨rfl, q _ H G (Up.refl e) (congrArg (fun b => V.bl (!b)) dec_bl)⟩
theorem rr_eqS : RR rEq rS rS rB (fun i j => some (decide (i = j))) := fun v w x y z H G hv hw hz e Q q => by
  cases hv; cases hw; cases hz
  refine ⟨rfl, q _ H G (Up.refl e) (congrArg V.bl ?_)⟩
  by_cases h : x = y
  · subst h; simp
  · have : ¬ V.str x = V.str y := fun z => h (V.str.inj z)
    simp [h, this]
theorem rr_neS : RR rNe rS rS rB (fun i j => some (!decide (i = j))) := fun v w x y z H G hv hw hz e Q q => by
  cases hv; cases hw; cases hz
  refine ⟨rfl, q _ H G (Up.refl e) (congrArg (fun b => V.bl (!b)) ?_)⟩
  by_cases h : x = y
  · subst h; simp
  · have : ¬ V.str x = V.str y := fun z => h (V.str.inj z)
    simp [h, this]
theorem rr_ixL : RR (rIxL K) (rL R) rI R (fun xs i => atI xs i) := fun v w xs i z H G hv hw hz e Q q => by
  obtain ⟨a, vs, rfl, h2, h3⟩ := hv
  cases hw
  have hz' : (ixN xs.length i).bind (fun j => xs[j]?) = some z := hz
  cases hj : ixN xs.length i with
  | none => rw [hj] at hz'; cases hz'
  | some j =>
    rw [hj] at hz'
    obtain ⟨y, h4, h5⟩ := pr_get h3 (show xs[j]? = some z from hz')
    refine ⟨a, vs, i, y, rfl, rfl, Or.inl (Or.inl (e a _ h2)), ?_, q y H G (Up.refl e) h5⟩
    show (ixN vs.length i).bind (fun j => vs[j]?) = some y
    rw [h3.length, hj]; exact h4
theorem rr_ixT : RR (rIxT K) (rT R) rI R (fun xs i => atI xs i) := fun v w xs i z H G hv hw hz e Q q => by
  obtain ⟨a, vs, rfl, h2, h3⟩ := hv
  cases hw
  have hz' : (ixN xs.length i).bind (fun j => xs[j]?) = some z := hz
  cases hj : ixN xs.length i with
  | none => rw [hj] at hz'; cases hz'
  | some j =>
    rw [hj] at hz'
    obtain ⟨y, h4, h5⟩ := pr_get h3 (show xs[j]? = some z from hz')
    refine ⟨a, vs, i, y, rfl, rfl, Or.inl (Or.inl (e a _ h2)), ?_, q y H G (Up.refl e) h5⟩
    show (ixN vs.length i).bind (fun j => vs[j]?) = some y
    rw [h3.length, hj]; exact h4
/-- p[0], p[1] of a pair -/
theorem e_fst {m : Option (α × β)} (h : E ta σ G W (rP R S) m) : E (tOp (rIxT K) ta (tC (.int 0))) σ G W R (m >>= fun p => some p.1) := fun z hz H e e' Q q => by
  obtain ⟨x, hx, hz⟩ := bindS hz
  cases hz
  refine h x hx H e e' _ fun v H1 G1 u1 r1 => ?_
  obtain ⟨a, y, w, rfl, h2, h3, h4⟩ := r1
  exact ⟨a, [y, w], 0, y, rfl, rfl, Or.inl (Or.inl (u1.gh a _ h2)), rfl, q y H1 G1 u1 h3⟩
theorem e_snd {m : Option (α × β)} (h : E ta σ G W (rP R S) m) : E (tOp (rIxT K) ta (tC (.int 1))) σ G W S (m >>= fun p => some p.2) := fun z hz H e e' Q q => by
  obtain ⟨x, hx, hz⟩ := bindS hz
  cases hz
  refine h x hx H e e' _ fun v H1 G1 u1 r1 => ?_
  obtain ⟨a, y, w, rfl, h2, h3, h4⟩ := r1
  exact ⟨a, [y, w], 1, w, rfl, rfl, Or.inl (Or.inl (u1.gh a _ h2)), rfl, q w H1 G1 u1 h4⟩
/-- never None -/
def Rep.NN (R : Rep α) : Prop := ∀ {H : Hp} {v : V} {x : α}, R.r H v x → v ≠ .non
theorem nnI : rI.NN := fun h => by rw [show _ = V.int _ from h]; simp
theorem nnB : rB.NN := fun h => by rw [show _ = V.bl _ from h]; simp
theorem nnS : rS.NN := fun h => by rw [show _ = V.str _ from h]; simp
theorem nnL : (rL R).NN := fun ⟨a, _, h, _⟩ => by rw [h]; simp
theorem nnT : (rT R).NN := fun ⟨a, _, h, _⟩ => by rw [h]; simp
theorem nnP : (rP R S).NN := fun ⟨a, _, _, h, _⟩ => by rw [h]; simp
theorem rr_isN (nn : R.NN) : RR (fun x y H Q => y = .non ∧ Q (.bl (decide (x = .non))) H) (rO R) rU rB (fun o _ => some o.isNone) := fun v w o y z H G hv hw hz e Q q => by
  cases hz
  refine ⟨hw, q _ H G (Up.refl e) ?_⟩
  cases o with
  | none => have : v = .non := hv; subst this; rfl
  | some x => exact congrArg V.bl (decide_eq_false (nn hv))
theorem rr_notN (nn : R.NN) : RR (fun x y H Q => y = .non ∧ Q (.bl (!decide (x = .non))) H) (rO R) rU rB (fun o _ => some o.isSome) := fun v w o y z H G hv hw hz e Q q => by
  cases hz
  refine ⟨hw, q _ H G (Up.refl e) ?_⟩
  cases o with
  | none => have : v = .non := hv; subst this; rfl
  | some x => exact congrArg (fun b => V.bl (!b)) (decide_eq_false (nn hv))
/-- flat values: in -/
structure FlR (R : Rep α) (eq : α → α → Bool) : Prop where
  fl : ∀ {H : Hp} {v : V} {x : α}, R.r H v x → flatV v = true
  eq : ∀ {H H' : Hp} {v w : V} {x y : α}, R.r H v x → R.r H' w y → eqV v w = eq x y
theorem flI : FlR rI (fun a b => a == b) := ⟨fun h => by rw [show _ = V.int _ from h]; rfl, fun h h' => by rw [show _ = V.int _ from h, show _ = V.int _ from h']; rfl⟩
theorem flS : FlR rS (fun a b => a == b) := ⟨fun h => by rw [show _ = V.str _ from h]; rfl, fun h h' => by rw [show _ = V.str _ from h, show _ = V.str _ from h']; rfl⟩
theorem pr_inV {eq : α → α → Bool} (f : FlR R eq) {H H' : Hp} {v : V} {x : α} (hv : R.r H' v x) : ∀ {vs : List V} {xs : List α}, Paired (R.r H) vs xs → inV v vs = xs.any (fun y => eq y x) ∧ vs.all flatV = true
  | _, _, .nil => ⟨rfl, rfl⟩
  | _, _, .cons r t => by
    obtain ⟨h1, h2⟩ := pr_inV f hv t
    refine ⟨?_, ?_⟩
    · show (eqV _ v || _) = (eq _ x || _)
      rw [f.eq r hv]; exact congrArg _ h1
    · show (flatV _ && _) = true
      rw [f.fl r]; exact h2
theorem rr_inL {eq : α → α → Bool} (f : FlR R eq) : RR (rIn K false) R (rL R) rB (fun x xs => some (xs.any fun y => eq y x)) := fun v w x xs z H G hv hw hz e Q q => by
  cases hz
  obtain ⟨a, vs, rfl, h2, h3⟩ := hw
  obtain ⟨h4, h5⟩ := pr_inV f hv h3
  refine ⟨a, vs, rfl, Or.inl (Or.inl (Or.inl (e a _ h2))), f.fl hv, h5, q _ H G (Up.refl e) (congrArg V.bl ?_)⟩
  exact h4
theorem rr_ninL {eq : α → α → Bool} (f : FlR R eq) : RR (rIn K true) R (rL R) rB (fun x xs => some (!xs.any fun y => eq y x)) := fun v w x xs z H G hv hw hz e Q q => by
  cases hz
  obtain ⟨a, vs, rfl, h2, h3⟩ := hw
  obtain ⟨h4, h5⟩ := pr_inV f hv h3
  refine ⟨a, vs, rfl, Or.inl (Or.inl (Or.inl (e a _ h2))), f.fl hv, h5, q _ H G (Up.refl e) (congrArg V.bl ?_)⟩
  exact congrArg (fun b => !b) h4

/-! ### and, or, not, if -/
theorem e_andV {a b : Option Bool} (h1 : E ta σ G W rB a) (h2 : E tb σ G W rB b) : E (tAndV ta tb) σ G W rB (andO a b) := fun z hz H e e' Q q => by
  obtain ⟨x, hx, hz⟩ := bindS hz
  refine h1 x hx H e e' _ fun v H1 G1 u1 r1 => ⟨x, r1, ?_⟩
  cases x with
  | true => exact (h2.mono u1.gg (e'.trans u1.hh)) z hz H1 u1.gh (Ex.refl _) Q fun v H2 G2 u2 r2 => q v H2 G2 (u1.trans u2) r2
  | false => cases hz; exact q _ H1 G1 u1 rfl
theorem e_orV {a b : Option Bool} (h1 : E ta σ G W rB a) (h2 : E tb σ G W rB b) : E (tOrV ta tb) σ G W rB (orO a b) := fun z hz H e e' Q q => by
  obtain ⟨x, hx, hz⟩ := bindS hz
  refine h1 x hx H e e' _ fun v H1 G1 u1 r1 => ⟨x, r1, ?_⟩
  cases x with
  | false => exact (h2.mono u1.gg (e'.trans u1.hh)) z hz H1 u1.gh (Ex.refl _) Q fun v H2 G2 u2 r2 => q v H2 G2 (u1.trans u2) r2
  | true => cases hz; exact q _ H1 G1 u1 rfl
theorem e_notV {a : Option Bool} (h1 : E ta σ G W rB a) : E (tNotV ta) σ G W rB (a >>= fun x => some (!x)) := fun z hz H e e' Q q => by
  obtain ⟨x, hx, hz⟩ := bindS hz
  cases hz
  exact h1 x hx H e e' _ fun v H1 G1 u1 r1 => ⟨x, r1, q _ H1 G1 u1 rfl⟩
theorem e_if {c : Option Bool} {ma mb : Option α} (hc : ET t σ W c) (h1 : E ta σ G W R ma) (h2 : E tb σ G W R mb) : E (tIf t ta tb) σ G W R (iteO c ma mb) := fun z hz H e e' Q q => by
  obtain ⟨x, hx, hz⟩ := bindS hz
  refine hc x hx H e' _ fun H1 e1 => ?_
  cases x with
  | true => exact h1 z hz H1 (e.trans e1) (e'.trans e1) Q fun v H2 G2 u2 r2 => q v H2 G2 ((Up.same e e1).trans u2) r2
  | false => exact h2 z hz H1 (e.trans e1) (e'.trans e1) Q fun v H2 G2 u2 r2 => q v H2 G2 ((Up.same e e1).trans u2) r2
theorem et_T {m : Option Bool} (h : E te σ W W rB m) : ET (tTest te) σ W m := fun b hb H e Q q => h b hb H e e _ fun v H2 G2 u r => ⟨b, r, q H2 u.hh⟩
theorem et_B {m : Option Bool} (h : E te σ W W rB m) : ET (tB te) σ W m := fun b hb H e Q q => h b hb H e e _ fun v H2 G2 u r => ⟨b, r, q H2 u.hh⟩
theorem et_and {a b : Option Bool} (h1 : ET t σ G a) (h2 : ET u σ G b) : ET (tAnd t u) σ G (andO a b) := fun z hz H e Q q => by
  obtain ⟨x, hx, hz⟩ := bindS hz
  refine h1 x hx H e _ fun H1 e1 => ?_
  cases x with
  | true => exact h2 z hz H1 (e.trans e1) Q fun H2 e2 => q H2 (e1.trans e2)
  | false => cases hz; exact q H1 e1
theorem et_or {a b : Option Bool} (h1 : ET t σ G a) (h2 : ET u σ G b) : ET (tOr t u) σ G (orO a b) := fun z hz H e Q q => by
  obtain ⟨x, hx, hz⟩ := bindS hz
  refine h1 x hx H e _ fun H1 e1 => ?_
  cases x with
  | false => exact h2 z hz H1 (e.trans e1) Q fun H2 e2 => q H2 (e1.trans e2)
  | true => cases hz; exact q H1 e1
theorem et_not {a : Option Bool} (h1 : ET t σ G a) : ET (tNot t) σ G (a >>= fun x => some (!x)) := fun z hz H e Q q => by
  obtain ⟨x, hx, hz⟩ := bindS hz
  cases hz
  exact h1 x hx H e _ fun H1 e1 => q H1 e1

/-! ### arguments, calls -/
theorem ea_nil : EA tNil σ G W aN (some ()) := fun x hx H e e' Q q => q [] H G (Up.refl e) rfl
theorem ea_cons {tr : TA} {ma : Option α} {mr : Option ι} (h : E ta σ G W R ma) (hr : EA tr σ G W A mr) : EA (tCons ta tr) σ G W (aC R A) (ma >>= fun x => mr >>= fun y => some (x, y)) := fun z hz H e e' Q q => by
  obtain ⟨x, hx, hz⟩ := bindS hz
  obtain ⟨y, hy, hz⟩ := bindS hz
  cases hz
  refine h x hx H e e' _ fun v H1 G1 u1 r1 => ?_
  refine (hr.mono u1.gg (e'.trans u1.hh)) y hy H1 u1.gh (Ex.refl _) _ fun w H2 G2 u2 r2 => ?_
  exact q (v :: w) H2 G2 (u1.trans u2) ⟨v, w, rfl, R.mono u2.gg r1, r2⟩
def RC (r : List V → Hp → VK → Prop) (A : AR ι) (T : Rep γ) (f : ι → Option γ) : Prop :=
  ∀ vs i z H G, A.r G vs i → f i = some z → Ex G H → ∀ Q : VK, (∀ u H2 G2, Up G H G2 H2 → T.r G2 u z → Q u H2) → r vs H Q
def RCL (r : List V → Hp → VK → Prop) (A : AR ι) (T : Rep γ) (f : ι → Option (List γ)) : Prop :=
  ∀ vs i z H G, A.r G vs i → f i = some z → Ex G H → ∀ Q : VK, (∀ p H2 G2, H p = none → Up G H G2 H2 → Wd G2 H2 [(p, cL T z)] → Q (.ref p) H2) → r vs H Q
/-- an expression that makes a new list -/
def EL (te : TE) (σ : L2.St) (G W : Hp) (R : Rep α) (m : Option (List α)) : Prop :=
  ∀ xs, m = some xs → ∀ H, Ex G H → Ex W H → ∀ Q : VK, (∀ p H2 G2, H p = none → Up G H G2 H2 → Wd G2 H2 [(p, cL R xs)] → Q (.ref p) H2) → te σ H Q
theorem Up.frz {G H G1 H1 G2 : Hp} {p : Addr} (hp : H p = none) (u : Up G H G1 H1) (e : Ex G1 G2) (e2 : Ex G2 H1) (n : ∀ a, a ≠ p → G1 a = none → G2 a = none) : Up G H G2 H1 :=
  ⟨u.gg.trans e, e2, u.hh, fun a h1 h2 => n a (fun z => by subst z; exact h1 hp) (u.nw a h1 h2)⟩
theorem frz1 {G H G1 H1 : Hp} {p : Addr} {xs : List α} (hp : H p = none) (u : Up G H G1 H1) (w : Wd G1 H1 [(p, cL R xs)]) : ∃ G2, Up G H G2 H1 ∧ (rL R).r G2 (.ref p) xs := by
  obtain ⟨h1, o, h2, vs, rfl, h3⟩ := w.head
  refine ⟨upd G1 p (.lst vs), u.frz hp (Ex.new h1) (fun a u' e => ?_) (fun a ne h => by rw [upd_ne ne]; exact h), p, vs, rfl, upd_same, Paired.mapP h3 fun _ _ => R.mono (Ex.new h1)⟩
  by_cases q : a = p
  · subst q; rw [upd_same] at e; cases e; exact h2
  · rw [upd_ne q] at e; exact w.ex a u' e
theorem EL.e {m : Option (List α)} (h : EL te σ G W R m) : E te σ G W (rL R) m := fun x hx H e e' Q q => h x hx H e e' Q fun p H2 G2 hp u w => by
  obtain ⟨G3, u3, r3⟩ := frz1 hp u w
  exact q _ H2 G3 u3 r3
theorem Wd.lift {Gw G2 : Hp} {H : Hp} {cs : Cs} (w : Wd G2 H cs) (e : Ex G2 Gw) (e2 : Ex Gw H) (n : ∀ c ∈ cs, Gw c.1 = none) : Wd Gw H cs := ⟨e2, fun c h => by
  obtain ⟨h1, o, h2, h3⟩ := w.at_ c h
  exact ⟨n c h, o, h2, c.2.mono e h3⟩, w.nd⟩
theorem Up.lift' {G Gw H G2 H2 : Hp} (u : Up G H G2 H2) (e1 : Ex G Gw) (e2 : Ex Gw H) : ∃ G3, Up Gw H G3 H2 ∧ Ex G2 G3 ∧ ∀ a, H a = none → G2 a = none → G3 a = none := by
  refine ⟨fun a => match H a with | none => G2 a | some _ => Gw a, ⟨fun a o h => ?_, fun a o h => ?_, u.hh, fun a h1 h2 => ?_⟩, fun a o h => ?_, fun a h1 h2 => ?_⟩
  · show (match H a with | none => G2 a | some _ => Gw a) = some o
    rw [e2 a o h]; exact h
  · have h' : (match H a with | none => G2 a | some _ => Gw a) = some o := h
    cases q : H a with
    | none => rw [q] at h'; exact u.gh a o h'
    | some o' =>
      rw [q] at h'
      exact u.hh a o (e2 a o h')
  · show (match H a with | none => G2 a | some _ => Gw a) = none
    cases q : H a with
    | none => exact absurd q h1
    | some o' => exact h2
  · show (match H a with | none => G2 a | some _ => Gw a) = some o
    cases q : H a with
    | none => exact h
    | some o' =>
      show Gw a = some o
      cases r : G a with
      | none => rw [u.nw a (by rw [q]; simp) r] at h; cases h
      | some o2 =>
        have := u.gg a o2 r
        rw [h] at this
        cases this
        exact e1 a _ r
  · show (match H a with | none => G2 a | some _ => Gw a) = none
    rw [h1]; exact h2
theorem EL.mono {m : Option (List α)} (e : Ex G G') (e' : Ex W W') (h : EL te σ G W R m) : EL te σ G' W' R m := fun x hx H e1 e2 Q q => h x hx H (e.trans e1) (e'.trans e2) Q fun p H2 G2 hp u w => by
  obtain ⟨G3, u3, e3, n3⟩ := u.lift' e e1
  exact q p H2 G3 hp u3 (w.lift e3 u3.gh fun c hc => by
    cases List.mem_singleton.mp hc
    exact n3 p hp w.head.1)
theorem e_cb {r : List V → Hp → VK → Prop} {f : ι → Option γ} {ta : TA} {m : Option ι} (hr : RC r A T f) (ha : EA ta σ G W A m) : E (tCB r ta) σ G W T (m >>= f) := fun z hz H e e' Q q => by
  obtain ⟨i, hi, hz⟩ := bindS hz
  refine ha i hi H e e' _ fun vs H1 G1 u1 r1 => ?_
  exact hr vs i z H1 G1 r1 hz u1.gh Q fun u H2 G2 u2 r2 => q u H2 G2 (u1.trans u2) r2
theorem el_cb {r : List V → Hp → VK → Prop} {f : ι → Option (List γ)} {ta : TA} {m : Option ι} (hr : RCL r A T f) (ha : EA ta σ G W A m) : EL (tCB r ta) σ G W T (m >>= f) := fun z hz H e e' Q q => by
  obtain ⟨i, hi, hz⟩ := bindS hz
  refine ha i hi H e e' _ fun vs H1 G1 u1 r1 => ?_
  exact hr vs i z H1 G1 r1 hz u1.gh Q fun p H2 G2 hp u2 w => q p H2 G2 (fresh_back u1.hh hp) (u1.trans u2) w
theorem e_call {f : ι → Option γ} {ta : TA} {m : Option ι} {X : XK} (ha : EA ta σ G W A m) : E (tCall (PF A T f) [] X ta) σ G W T (m >>= f) := fun z hz H e e' Q q => by
  obtain ⟨i, hi, hz⟩ := bindS hz
  refine ha i hi H e e' _ fun vs H1 G1 u1 r1 => ?_
  rw [List.append_nil]
  exact ⟨G1, i, z, u1.gh, r1, hz, fun v H2 G2 u2 r2 => q v H2 G2 (u1.trans u2) r2⟩
theorem el_call {f : ι → Option (List γ)} {ta : TA} {m : Option ι} {X : XK} (ha : EA ta σ G W A m) : EL (tCall (PL A T f) [] X ta) σ G W T (m >>= f) := fun z hz H e e' Q q => by
  obtain ⟨i, hi, hz⟩ := bindS hz
  refine ha i hi H e e' _ fun vs H1 G1 u1 r1 => ?_
  rw [List.append_nil]
  exact ⟨G1, i, z, u1.gh, r1, hz, fun p H2 G2 hp u2 w => q p H2 G2 (fresh_back u1.hh hp) (u1.trans u2) w⟩

/-! ### built-ins -/
def sz (n : Nat) : Bool := decide (n < 100000)
theorem sz_le {n : Nat} (h : sz n = true) : n ≤ sizeLine := sz_of (Nat.le_of_lt (of_decide_eq_true h))
theorem sz_l {n : Nat} (h : sz n = true) : n < sizeLine := sz_lt (of_decide_eq_true h)
abbrev rLn (K : PySem.W.Frag) : List V → Hp → VK → Prop := fun xs H Q => ∃ p ys, xs = [.ref p] ∧ (SqL K H p ys ∨ SqT K H p ys) ∧ Q (.int ys.length) H
theorem rc_lenL : RC (rLn K) (aC (rL R) aN) rI (fun i => some (i.1.length : Int)) := fun vs i z H G hv hz e Q q => by
  cases hz
  obtain ⟨v, ws, rfl, ⟨a, us, rfl, h2, h3⟩, rfl⟩ := hv
  refine ⟨a, us, rfl, Or.inl (Or.inl (Or.inl (e a _ h2))), q _ H G (Up.refl e) ?_⟩
  show V.int _ = V.int _
  rw [h3.length]
theorem rc_lenT : RC (rLn K) (aC (rT R) aN) rI (fun i => some (i.1.length : Int)) := fun vs i z H G hv hz e Q q => by
  cases hz
  obtain ⟨v, ws, rfl, ⟨a, us, rfl, h2, h3⟩, rfl⟩ := hv
  refine ⟨a, us, rfl, Or.inr (Or.inl (Or.inl (e a _ h2))), q _ H G (Up.refl e) ?_⟩
  show V.int _ = V.int _
  rw [h3.length]
abbrev rLs (K : PySem.W.Frag) : List V → Hp → VK → Prop := fun xs H Q => ∃ p ys, xs = [.ref p] ∧ (SqL K H p ys ∨ SqT K H p ys) ∧ ∀ l, H l = none → Q (.ref l) (upd H l (.lst ys))
theorem wd_new {vs : List V} {xs : List α} {p : Addr} (e : Ex G H) (n : H p = none) (h : Paired (R.r G) vs xs) : Wd G (upd H p (.lst vs)) [(p, cL R xs)] := (Wd.nil e).new n ⟨vs, rfl, h⟩
theorem up_new {p : Addr} {o : HO} (e : Ex G H) (n : H p = none) : Up G H G (upd H p o) := Up.same e (Ex.new n)
theorem rc_listL : RCL (rLs K) (aC (rL R) aN) R (fun i => some i.1) := fun vs i z H G hv hz e Q q => by
  cases hz
  obtain ⟨v, ws, rfl, ⟨a, us, rfl, h2, h3⟩, rfl⟩ := hv
  exact ⟨a, us, rfl, Or.inl (Or.inl (Or.inl (e a _ h2))), fun l hl => q l _ G hl (up_new e hl) (wd_new e hl h3)⟩
theorem rc_listT : RCL (rLs K) (aC (rT R) aN) R (fun i => some i.1) := fun vs i z H G hv hz e Q q => by
  cases hz
  obtain ⟨v, ws, rfl, ⟨a, us, rfl, h2, h3⟩, rfl⟩ := hv
  exact ⟨a, us, rfl, Or.inr (Or.inl (Or.inl (e a _ h2))), fun l hl => q l _ G hl (up_new e hl) (wd_new e hl h3)⟩
abbrev rTp (K : PySem.W.Frag) : List V → Hp → VK → Prop := fun xs H Q => ∃ p ys, xs = [.ref p] ∧ ((SqL K H p ys ∧ ∀ l, H l = none → Q (.ref l) (upd H l (.tup ys))) ∨ (SqT K H p ys ∧ Q (.ref p) H))
theorem rc_tupleL : RC (rTp K) (aC (rL R) aN) (rT R) (fun i => some i.1) := fun vs i z H G hv hz e Q q => by
  cases hz
  obtain ⟨v, ws, rfl, ⟨a, us, rfl, h2, h3⟩, rfl⟩ := hv
  refine ⟨a, us, rfl, Or.inl ⟨Or.inl (Or.inl (e a _ h2)), fun l hl => q _ _ _ (Up.lay e hl) ⟨l, us, rfl, upd_same, Paired.mapP h3 fun _ _ => R.mono (Ex.new (fresh_back e hl))⟩⟩⟩
abbrev rAbs : List V → Hp → VK → Prop := fun xs H Q => ∃ i, xs = [.int i] ∧ Q (.int (if i < 0 then -i else i)) H
theorem rc_abs : RC rAbs (aC rI aN) rI (fun i => some (if i.1 < 0 then -i.1 else i.1)) := fun vs i z H G hv hz e Q q => by
  cases hz
  obtain ⟨v, ws, rfl, rfl, rfl⟩ := hv
  exact ⟨_, rfl, q _ H G (Up.refl e) rfl⟩
abbrev rMx : List V → Hp → VK → Prop := fun xs H Q => ∃ i j, xs = [.int i, .int j] ∧ Q (.int (if j > i then j else i)) H
abbrev rMn : List V → Hp → VK → Prop := fun xs H Q => ∃ i j, xs = [.int i, .int j] ∧ Q (.int (if j < i then j else i)) H
theorem rc_max2 : RC rMx (aC rI (aC rI aN)) rI (fun i => some (if i.2.1 > i.1 then i.2.1 else i.1)) := fun vs i z H G hv hz e Q q => by
  cases hz
  obtain ⟨v, ws, rfl, rfl, v2, ws2, rfl, rfl, rfl⟩ := hv
  exact ⟨_, _, rfl, q _ H G (Up.refl e) rfl⟩
theorem rc_min2 : RC rMn (aC rI (aC rI aN)) rI (fun i => some (if i.2.1 < i.1 then i.2.1 else i.1)) := fun vs i z H G hv hz e Q q => by
  cases hz
  obtain ⟨v, ws, rfl, rfl, v2, ws2, rfl, rfl, rfl⟩ := hv
  exact ⟨_, _, rfl, q _ H G (Up.refl e) rfl⟩
abbrev rInt : List V → Hp → VK → Prop := fun xs H Q => (∃ i, xs = [.int i] ∧ Q (.int i) H) ∨ ∃ k, xs = [.bl k] ∧ Q (.int (if k then 1 else 0)) H
theorem rc_intI : RC rInt (aC rI aN) rI (fun i => some i.1) := fun vs i z H G hv hz e Q q => by
  cases hz
  obtain ⟨v, ws, rfl, rfl, rfl⟩ := hv
  exact Or.inl ⟨_, rfl, q _ H G (Up.refl e) rfl⟩
theorem rc_intB : RC rInt (aC rB aN) rI (fun i => some (if i.1 then 1 else 0)) := fun vs i z H G hv hz e Q q => by
  cases hz
  obtain ⟨v, ws, rfl, rfl, rfl⟩ := hv
  exact Or.inr ⟨_, rfl, q _ H G (Up.refl e) rfl⟩
theorem pr_ints {H : Hp} : ∀ {vs : List V} {xs : List Int}, Paired (rI.r H) vs xs → vs = xs.map V.int
  | _, _, .nil => rfl
  | _, _, .cons r t => by rw [show _ = V.int _ from r, pr_ints t]; rfl
theorem ints_pr {H : Hp} : ∀ (xs : List Int), Paired (rI.r H) (xs.map V.int) xs
  | [] => .nil
  | x :: xs => .cons rfl (ints_pr xs)
/-- the sorted list, the least, the greatest: plain mirrors -/
def insI (x : Int) : List Int → List Int
  | [] => [x]
  | y :: ys => if x ≤ y then x :: y :: ys else y :: insI x ys
def srtI : List Int → List Int
  | [] => []
  | x :: xs => insI x (srtI xs)
theorem insI_perm (x : Int) : ∀ ys, (insI x ys).Perm (x :: ys)
  | [] => .refl _
  | y :: ys => by
    unfold insI
    split
    · exact .refl _
    · exact (List.Perm.cons y (insI_perm x ys)).trans (.swap x y ys)
theorem srtI_perm : ∀ xs, (srtI xs).Perm xs
  | [] => .refl _
  | x :: xs => (insI_perm x _).trans (.cons x (srtI_perm xs))
theorem insI_sorted (x : Int) : ∀ {ys : List Int}, ys.Pairwise (· ≤ ·) → (insI x ys).Pairwise (· ≤ ·)
  | [], _ => by simp [insI]
  | y :: ys, h => by
    unfold insI
    split
    · rename_i hxy
      refine List.pairwise_cons.mpr ⟨fun z hz => ?_, h⟩
      rcases List.mem_cons.mp hz with hz | hz
      · subst hz; exact hxy
      · exact Int.le_trans hxy ((List.pairwise_cons.mp h).1 z hz)
    · rename_i hxy
      refine List.pairwise_cons.mpr ⟨fun z hz => ?_, insI_sorted x (List.pairwise_cons.mp h).2⟩
      rcases List.mem_cons.mp ((insI_perm x ys).mem_iff.mp hz) with hz | hz
      · subst hz; omega
      · exact (List.pairwise_cons.mp h).1 z hz
theorem srtI_sorted : ∀ xs, (srtI xs).Pairwise (· ≤ ·)
  | [] => List.Pairwise.nil
  | x :: xs => insI_sorted x (srtI_sorted xs)
theorem srt_uniq : ∀ {xs ys : List Int}, xs.Perm ys → xs.Pairwise (· ≤ ·) → ys.Pairwise (· ≤ ·) → xs = ys
  | [], ys, p, _, _ => by simpa using p.symm.eq_nil
  | x :: xs, [], p, _, _ => by simpa using p.eq_nil
  | x :: xs, y :: ys, p, hx, hy => by
    have h1 : x ≤ y := by
      rcases List.mem_cons.mp (p.symm.subset (List.mem_cons_self ..) : y ∈ x :: xs) with h | h
      · omega
      · exact (List.pairwise_cons.mp hx).1 y h
    have h2 : y ≤ x := by
      rcases List.mem_cons.mp (p.subset (List.mem_cons_self ..) : x ∈ y :: ys) with h | h
      · omega
      · exact (List.pairwise_cons.mp hy).1 x h
    have e : x = y := by omega
    subst e
    rw [srt_uniq (List.Perm.cons_inv p) (List.pairwise_cons.mp hx).2 (List.pairwise_cons.mp hy).2]
theorem rc_sorted : RCL (rSorted K) (aC (rL rI) aN) rI (fun i => if i.1.length < 64 then some (srtI i.1) else none) := fun vs i z H G hv hz e Q q => by
  obtain ⟨v, ws, rfl, ⟨a, us, rfl, h2, h3⟩, rfl⟩ := hv
  have hz : (if i.1.length < 64 then some (srtI i.1) else none) = some z := hz
  split at hz
  · rename_i hl
    cases hz
    have h3' := pr_ints h3
    subst h3'
    refine ⟨a, i.1, rfl, Or.inl (Or.inl (e a _ h2)), hl, fun ns' p hp hs hn => ?_⟩
    have : ns' = srtI i.1 := srt_uniq (hp.trans (srtI_perm _).symm) hs (srtI_sorted _)
    subst this
    exact q p _ G hn (up_new e hn) (wd_new e hn (ints_pr _))
  · cases hz
def minL : List Int → Option Int
  | [] => none
  | [x] => some x
  | x :: y :: ys => (minL (y :: ys)).map fun m => if m < x then m else x
def maxL : List Int → Option Int
  | [] => none
  | [x] => some x
  | x :: y :: ys => (maxL (y :: ys)).map fun m => if m > x then m else x
theorem minL_ok : ∀ {xs : List Int} {m : Int}, minL xs = some m → m ∈ xs ∧ ∀ y ∈ xs, m ≤ y
  | [x], m, h => by cases h; exact ⟨List.mem_cons_self .., fun y hy => by rw [List.mem_singleton.mp hy]; exact Int.le_refl _⟩
  | x :: y :: ys, m, h => by
    unfold minL at h
    cases e : minL (y :: ys) with
    | none => rw [e] at h; cases h
    | some k =>
      obtain ⟨h1, h2⟩ := minL_ok e
      rw [e] at h
      have h' : (if k < x then k else x) = m := Option.some.inj h
      split at h'
      · subst h'
        exact ⟨List.mem_cons_of_mem _ h1, fun z hz => by
          rcases List.mem_cons.mp hz with hz | hz
          · omega
          · exact h2 z hz⟩
      · subst h'
        exact ⟨List.mem_cons_self .., fun z hz => by
          rcases List.mem_cons.mp hz with hz | hz
          · omega
          · have := h2 z hz; omega⟩
theorem maxL_ok : ∀ {xs : List Int} {m : Int}, maxL xs = some m → m ∈ xs ∧ ∀ y ∈ xs, y ≤ m
  | [x], m, h => by cases h; exact ⟨List.mem_cons_self .., fun y hy => by rw [List.mem_singleton.mp hy]; exact Int.le_refl _⟩
  | x :: y :: ys, m, h => by
    unfold maxL at h
    cases e : maxL (y :: ys) with
    | none => rw [e] at h; cases h
    | some k =>
      obtain ⟨h1, h2⟩ := maxL_ok e
      rw [e] at h
      have h' : (if k > x then k else x) = m := Option.some.inj h
      split at h'
      · subst h'
        exact ⟨List.mem_cons_of_mem _ h1, fun z hz => by
          rcases List.mem_cons.mp hz with hz | hz
          · omega
          · exact h2 z hz⟩
      · subst h'
        exact ⟨List.mem_cons_self .., fun z hz => by
          rcases List.mem_cons.mp hz with hz | hz
          · omega
          · have := h2 z hz; omega⟩
theorem rc_minL : RC (rMin K) (aC (rL rI) aN) rI (fun i => minL i.1) := fun vs i z H G hv hz e Q q => by
  obtain ⟨v, ws, rfl, ⟨a, us, rfl, h2, h3⟩, rfl⟩ := hv
  have h3' := pr_ints h3
  subst h3'
  obtain ⟨m1, m2⟩ := minL_ok hz
  refine ⟨a, i.1, rfl, Or.inl (Or.inl (e a _ h2)), List.length_pos_of_mem m1, fun m hm hle => ?_⟩
  have : m = z := by have := hle z m1; have := m2 m hm; omega
  subst this
  exact q _ H G (Up.refl e) rfl
theorem rc_maxL : RC (rMax K) (aC (rL rI) aN) rI (fun i => maxL i.1) := fun vs i z H G hv hz e Q q => by
  obtain ⟨v, ws, rfl, ⟨a, us, rfl, h2, h3⟩, rfl⟩ := hv
  have h3' := pr_ints h3
  subst h3'
  obtain ⟨m1, m2⟩ := maxL_ok hz
  refine ⟨a, i.1, rfl, Or.inl (Or.inl (e a _ h2)), List.length_pos_of_mem m1, fun m hm hle => ?_⟩
  have : m = z := by have := hle z m1; have := m2 m hm; omega
  subst this
  exact q _ H G (Up.refl e) rfl

/-! ### displays -/
theorem el_lst {ta : TA} {B : AR ι} {m : Option ι} {xs : ι → List α} (h : EA ta σ G W B m) (hb : ∀ G vs i, B.r G vs i → Paired (R.r G) vs (xs i)) (hl : ∀ i, (xs i).length < 100000) : EL (tLst ta) σ G W R (m >>= fun i => some (xs i)) := fun z hz H e e' Q q => by
  obtain ⟨i, hi, hz⟩ := bindS hz
  cases hz
  refine h i hi H e e' _ fun vs H1 G1 u1 r1 => ?_
  have pr := hb _ _ _ r1
  refine ⟨sz_of (by rw [pr.length]; exact Nat.le_of_lt (hl i)), fun p hp => q p _ G1 (fresh_back u1.hh hp) (u1.trans (up_new u1.gh hp)) (wd_new u1.gh hp pr)⟩
theorem e_pair {ma : Option α} {mb : Option β} (ha : E ta σ G W R ma) (hb : E tb σ G W S mb) : E (tTup (tCons ta (tCons tb tNil))) σ G W (rP R S) (ma >>= fun x => mb >>= fun y => some (x, y)) := fun z hz H e e' Q q => by
  obtain ⟨x, hx, hz⟩ := bindS hz
  obtain ⟨y, hy, hz⟩ := bindS hz
  cases hz
  refine ha x hx H e e' _ fun v H1 G1 u1 r1 => ?_
  refine (hb.mono u1.gg (e'.trans u1.hh)) y hy H1 u1.gh (Ex.refl _) _ fun w H2 G2 u2 r2 => ?_
  refine ⟨by show 2 ≤ sizeLine; decide, fun p hp => q _ _ _ ((u1.trans u2).trans (Up.lay u2.gh hp)) ⟨p, v, w, rfl, upd_same, R.mono (u2.gg.trans (Ex.new (fresh_back u2.gh hp))) r1, S.mono (Ex.new (fresh_back u2.gh hp)) r2⟩⟩
end
end Sim

namespace Sim
open PySem L2 Evl

/-! ### mirrors of loops -/
inductive Stp (σ ρ : Type) where
  | nx (s : σ)
  | br (s : σ)
  | rt (r : ρ)
section
variable {α σ ρ : Type}
def stpK (k : σ → Option (σ ⊕ ρ)) : Stp σ ρ → Option (σ ⊕ ρ)
  | .nx s => k s
  | .br s => some (.inl s)
  | .rt r => some (.inr r)
def forL (body : α → σ → Option (Stp σ ρ)) : List α → σ → Option (σ ⊕ ρ)
  | [], s => some (.inl s)
  | x :: xs, s => body x s >>= stpK (forL body xs)
def forS (body : α → σ → Option σ) : List α → σ → Option σ
  | [], s => some s
  | x :: xs, s => body x s >>= forS body xs
def whL (c : σ → Option Bool) (body : σ → Option (Stp σ ρ)) : Nat → σ → Option (σ ⊕ ρ)
  | 0, _ => none
  | n + 1, s => c s >>= fun b => bif b then body s >>= stpK (whL c body n) else some (.inl s)
theorem drop_at {xs : List α} {i : Nat} {x : α} (h : xs[i]? = some x) : xs.drop i = x :: xs.drop (i + 1) := by
  obtain ⟨hl, e⟩ := List.getElem?_eq_some_iff.mp h
  rw [List.drop_eq_getElem_cons hl, e]
theorem forL_at {body : α → σ → Option (Stp σ ρ)} {xs : List α} {i : Nat} {x : α} {s : σ} {r : σ ⊕ ρ} (h : xs[i]? = some x) (hm : forL body (xs.drop i) s = some r) :
    ∃ t, body x s = some t ∧ stpK (forL body (xs.drop (i + 1))) t = some r := by
  rw [drop_at h] at hm
  exact bindS hm
theorem forL_end {body : α → σ → Option (Stp σ ρ)} {xs : List α} {s : σ} {r : σ ⊕ ρ} (hm : forL body (xs.drop xs.length) s = some r) : .inl s = r := by
  rw [List.drop_length] at hm
  exact Option.some.inj hm
theorem forS_at {body : α → σ → Option σ} {xs : List α} {i : Nat} {x : α} {s r : σ} (h : xs[i]? = some x) (hm : forS body (xs.drop i) s = some r) :
    ∃ t, body x s = some t ∧ forS body (xs.drop (i + 1)) t = some r := by
  rw [drop_at h] at hm
  exact bindS hm
theorem forS_end {body : α → σ → Option σ} {xs : List α} {s r : σ} (hm : forS body (xs.drop xs.length) s = some r) : s = r := by
  rw [List.drop_length] at hm
  exact Option.some.inj hm
end
/-- range(lo, hi) -/
def rng (lo hi : Int) : List Int := (List.range (hi - lo).toNat).map fun (i : Nat) => lo + (i : Int)
theorem rng_at {lo hi : Int} {i : Nat} {x : Int} (h : (rng lo hi)[i]? = some x) : x = lo + i ∧ lo + i < hi := by
  unfold rng at h
  rw [List.getElem?_map] at h
  cases e : (List.range (hi - lo).toNat)[i]? with
  | none => rw [e] at h; cases h
  | some k =>
    rw [e] at h
    obtain ⟨hl, ek⟩ := List.getElem?_eq_some_iff.mp e
    rw [List.getElem_range] at ek
    rw [List.length_range] at hl
    subst ek
    exact ⟨(Option.some.inj h).symm, by omega⟩
theorem rng_get {lo hi : Int} {i : Nat} (h : i < (hi - lo).toNat) : (rng lo hi)[i]? = some (lo + i) := by
  unfold rng
  rw [List.getElem?_map, List.getElem?_range h]
  rfl
theorem rng_len (lo hi : Int) : (rng lo hi).length = (hi - lo).toNat := by
  unfold rng
  rw [List.length_map, List.length_range]
def rngM (lo hi : Int) : Option (List Int) := if -100000 ≤ lo ∧ lo ≤ 100000 ∧ -100000 ≤ hi ∧ hi ≤ 100000 then some (rng lo hi) else none

/-! ### the world of a def -/
structure Wo (G0 H0 : Hp) (ls : List Addr) (G H : Hp) (cs : Cs) : Prop where
  w : Wd G H cs
  f : Fr G0 H0 G H ls
  lo : ∀ c ∈ cs, c.1 ∈ ls ∨ H0 c.1 = none
section
variable {K : PySem.W.Frag} {σ : L2.St} {G0 H0 G H G2 H2 : Hp} {ls : List Addr} {cs : Cs} {l : Addr} {cp cp' : CP} {ta tb te tc : TE} {t u : TT} {α β γ ι κ : Type} {R : Rep α} {S : Rep β} {T : Rep γ} {A : AR ι}
theorem Wo.ex (w : Wo G0 H0 ls G H cs) : Ex G H := w.w.ex
theorem Wo.up (w : Wo G0 H0 ls G H cs) (u : Up G H G2 H2) : Wo G0 H0 ls G2 H2 cs := ⟨w.w.up u, w.f.trans u.fr, w.lo⟩
theorem Wo.sc (w : Wo G0 H0 ls G H cs) (u : Ex H H2) : Wo G0 H0 ls G H2 cs := w.up (Up.same w.ex u)
theorem Wo.start (e : Ex G H) : Wo G H [] G H [] := ⟨Wd.nil e, Fr.refl, fun _ h => absurd h List.not_mem_nil⟩
theorem Wo.startC (w : Wd G H cs) : Wo G H (cs.map (·.1)) G H cs := ⟨w, Fr.refl, fun c h => .inl (List.mem_map_of_mem (f := (·.1)) h)⟩
/-- the i-th cell -/
theorem Wd.getAt {i : Nat} (w : Wd G H cs) (h : cs[i]? = some (l, cp)) : G l = none ∧ ∃ o, H l = some o ∧ cp.p G o := w.at_ _ (List.mem_of_getElem? h)
theorem Wo.rlAt {i : Nat} {xs : List α} (w : Wo G0 H0 ls G H cs) (h : cs[i]? = some (l, cL R xs)) : (rL R).r H (.ref l) xs := by
  obtain ⟨h1, o, h2, vs, rfl, h3⟩ := w.w.getAt h
  exact ⟨l, vs, rfl, h2, Paired.mapP h3 fun _ _ => R.mono w.ex⟩
theorem set_map {i : Nat} {c : Addr × CP} (h : cs[i]? = some c) : (cs.set i (c.1, cp')).map (·.1) = cs.map (·.1) := by
  rw [List.map_set]
  have : (cs.map (·.1))[i]? = some c.1 := by rw [List.getElem?_map, h]; rfl
  obtain ⟨hl, e⟩ := List.getElem?_eq_some_iff.mp this
  conv => lhs; rw [← e]
  exact List.set_getElem_self hl
theorem nodup_ix {as : List Addr} (nd : as.Nodup) {i j : Nat} {x : Addr} (h1 : as[i]? = some x) (h2 : as[j]? = some x) : i = j := by
  obtain ⟨a1, a2⟩ := List.getElem?_eq_some_iff.mp h1
  obtain ⟨b1, b2⟩ := List.getElem?_eq_some_iff.mp h2
  have p := List.pairwise_iff_getElem.mp nd
  rcases Nat.lt_trichotomy i j with q | q | q
  · exact absurd (a2.trans b2.symm) (p i j a1 b1 q)
  · exact q
  · exact absurd (b2.trans a2.symm) (p j i b1 a1 q)
theorem mem_set_cell {i : Nat} {c : Addr × CP} (nd : (cs.map (·.1)).Nodup) (h : cs[i]? = some (l, cp)) (hc : c ∈ cs.set i (l, cp')) : c = (l, cp') ∨ (c ∈ cs ∧ c.1 ≠ l) := by
  obtain ⟨j, hj, e⟩ := List.getElem_of_mem hc
  by_cases q : i = j
  · subst q; left; rw [← e]; simp
  · right
    rw [List.getElem_set_ne q] at e
    have hj' : j < cs.length := by rw [List.length_set] at hj; exact hj
    refine ⟨e ▸ List.getElem_mem hj', fun z => q ?_⟩
    have h1 : (cs.map (·.1))[i]? = some l := by rw [List.getElem?_map, h]; rfl
    have h2 : (cs.map (·.1))[j]? = some l := by rw [List.getElem?_map, List.getElem?_eq_getElem hj', e]; exact congrArg some z
    exact nodup_ix nd h1 h2
theorem Fr.put (f : Fr G0 H0 G H ls) {o : HO} (h : l ∈ ls ∨ H0 l = none) : Fr G0 H0 G (upd H l o) ls := ⟨f.gg, fun a u h1 h2 => by
  have ne : a ≠ l := fun z => by
    subst z
    rcases h with h | h
    · exact h2 h
    · rw [h] at h1; cases h1
  rw [upd_ne ne]; exact f.fr a u h1 h2, f.nw, fun a h1 => by
  by_cases q : a = l
  · subst q; rw [upd_same]; simp
  · rw [upd_ne q]; exact f.st a h1⟩
theorem Wo.writeAt {i : Nat} (w : Wo G0 H0 ls G H cs) (h : cs[i]? = some (l, cp)) {o : HO} (hp : cp'.p G o) : Wo G0 H0 ls G (upd H l o) (cs.set i (l, cp')) := by
  obtain ⟨h1, o1, h2, h3⟩ := w.w.getAt h
  have hl : l ∈ ls ∨ H0 l = none := w.lo _ (List.mem_of_getElem? h)
  refine ⟨⟨fun a u e => ?_, fun c hc => ?_, ?_⟩, w.f.put hl, fun c hc => ?_⟩
  · rw [upd_ne (fun z => by subst z; rw [h1] at e; cases e)]; exact w.ex a u e
  · rcases mem_set_cell w.w.nd h hc with hc | ⟨hc, ne⟩
    · subst hc; exact ⟨h1, o, upd_same, hp⟩
    · obtain ⟨k1, o', k2, k3⟩ := w.w.at_ c hc
      exact ⟨k1, o', by rw [upd_ne ne]; exact k2, k3⟩
  · rw [set_map (c := (l, cp)) h]; exact w.w.nd
  · rcases mem_set_cell w.w.nd h hc with hc | ⟨hc, ne⟩
    · subst hc; exact hl
    · exact w.lo c hc
theorem Wo.new (w : Wo G0 H0 ls G H cs) {o : HO} (n : H l = none) (h : cp.p G o) : Wo G0 H0 ls G (upd H l o) ((l, cp) :: cs) := by
  have n0 : H0 l = none := by
    cases q : H0 l with
    | none => rfl
    | some o => exact absurd n (w.f.st l (by rw [q]; simp))
  exact ⟨w.w.new n h, w.f.put (.inr n0), fun c hc => by
    rcases List.mem_cons.mp hc with hc | hc
    · subst hc; exact .inr n0
    · exact w.lo c hc⟩
/-- a new list made by an expression becomes a cell -/
theorem Wo.newL {p : Addr} {xs : List α} (w : Wo G0 H0 ls G H cs) (n : H p = none) (u : Up G H G2 H2) (w2 : Wd G2 H2 [(p, cL R xs)]) : Wo G0 H0 ls G2 H2 ((p, cL R xs) :: cs) := by
  have n0 : H0 p = none := by
    cases q : H0 p with
    | none => rfl
    | some o => exact absurd n (w.f.st p (by rw [q]; simp))
  have w3 := w.up u
  refine ⟨⟨w3.ex, fun c hc => ?_, ?_⟩, w3.f, fun c hc => ?_⟩
  · rcases List.mem_cons.mp hc with hc | hc
    · subst hc; exact w2.head
    · exact w3.w.at_ c hc
  · refine List.nodup_cons.mpr ⟨fun hm => ?_, w.w.nd⟩
    obtain ⟨c, hc, e⟩ := List.mem_map.mp hm
    obtain ⟨_, o', h2, _⟩ := w.w.at_ c hc
    exact ne_of_none h2 n e
  · rcases List.mem_cons.mp hc with hc | hc
    · subst hc; exact .inr n0
    · exact w.lo c hc
theorem Wo.dropAt (w : Wo G0 H0 ls G H cs) (i : Nat) : Wo G0 H0 ls G H (cs.eraseIdx i) := ⟨⟨w.ex, fun c hc => w.w.at_ c (List.mem_of_mem_eraseIdx hc), 
  List.Pairwise.sublist ((List.eraseIdx_sublist cs i).map (·.1)) w.w.nd⟩, w.f, fun c hc => w.lo c (List.mem_of_mem_eraseIdx hc)⟩
/-- a list cell of the def's own becomes data -/
theorem Wo.freezeAt {i : Nat} {xs : List α} (w : Wo G0 H0 ls G H cs) (h : cs[i]? = some (l, cL R xs)) (hl : H0 l = none) : ∃ G2, Wo G0 H0 ls G2 H (cs.eraseIdx i) ∧ Ex G G2 ∧ (rL R).r G2 (.ref l) xs := by
  obtain ⟨h1, o, h2, vs, rfl, h3⟩ := w.w.getAt h
  refine ⟨upd G l (.lst vs), ⟨⟨fun a u e => ?_, fun c hc => ?_, ?_⟩, ⟨w.f.gg.trans (Ex.new h1), w.f.fr, fun a k1 k2 => ?_, w.f.st⟩, fun c hc => w.lo c (List.mem_of_mem_eraseIdx hc)⟩, Ex.new h1, l, vs, rfl, upd_same, Paired.mapP h3 fun _ _ => R.mono (Ex.new h1)⟩
  · by_cases q : a = l
    · subst q; rw [upd_same] at e; cases e; exact h2
    · rw [upd_ne q] at e; exact w.ex a u e
  · obtain ⟨k1, o', k2, k3⟩ := w.w.at_ c (List.mem_of_mem_eraseIdx hc)
    obtain ⟨j, hj, e⟩ := List.getElem?_of_mem hc |>.imp fun _ h => (⟨trivial, h⟩ : True ∧ _)
    have ne : c.1 ≠ l := fun z => by
      rw [List.getElem?_eraseIdx] at e
      have hi : (cs.map (·.1))[i]? = some l := by rw [List.getElem?_map, h]; rfl
      split at e
      · rename_i hlt
        have : (cs.map (·.1))[j]? = some l := by rw [List.getElem?_map, e]; exact congrArg some z
        have := nodup_ix w.w.nd hi this
        omega
      · rename_i hlt
        have : (cs.map (·.1))[j + 1]? = some l := by rw [List.getElem?_map, e]; exact congrArg some z
        have := nodup_ix w.w.nd hi this
        omega
    exact ⟨by rw [upd_ne ne]; exact k1, o', k2, c.2.mono (Ex.new h1) k3⟩
  · exact List.Pairwise.sublist ((List.eraseIdx_sublist cs i).map (·.1)) w.w.nd
  · have ne : a ≠ l := fun z => by subst z; exact k1 hl
    rw [upd_ne ne]; exact w.f.nw a k1 k2
/-- behind a call that changed the i-th cell alone -/
theorem Wo.call1 {i : Nat} (w : Wo G0 H0 ls G H cs) (h : cs[i]? = some (l, cp)) (f : Fr G H G2 H2 [l]) (w2 : Wd G2 H2 [(l, cp')]) : Wo G0 H0 ls G2 H2 (cs.set i (l, cp')) := by
  have hl : l ∈ ls ∨ H0 l = none := w.lo _ (List.mem_of_getElem? h)
  refine ⟨⟨w2.ex, fun c hc => ?_, by rw [set_map (c := (l, cp)) h]; exact w.w.nd⟩, ⟨w.f.gg.trans f.gg, fun a o h1 h2 => ?_, fun a h1 h2 => f.nw a (w.f.st a h1) (w.f.nw a h1 h2), fun a h1 => f.st a (w.f.st a h1)⟩, fun c hc => ?_⟩
  · rcases mem_set_cell w.w.nd h hc with hc | ⟨hc, ne⟩
    · subst hc; exact w2.head
    · obtain ⟨k1, o', k2, k3⟩ := w.w.at_ c hc
      exact ⟨f.nw _ (by rw [k2]; simp) k1, o', f.fr _ _ k2 (fun z => ne (List.mem_singleton.mp z)), c.2.mono f.gg k3⟩
  · refine f.fr a o (w.f.fr a o h1 h2) fun z => ?_
    rw [List.mem_singleton.mp z] at h1 h2
    rcases hl with q | q
    · exact h2 q
    · rw [q] at h1; cases h1
  · rcases mem_set_cell w.w.nd h hc with hc | ⟨hc, ne⟩
    · subst hc; exact hl
    · exact w.lo c hc
theorem Wo.sub1 {i : Nat} (w : Wo G0 H0 ls G H cs) (h : cs[i]? = some (l, cp)) : Wd G H [(l, cp)] := ⟨w.ex, fun c hc => by
  rw [List.mem_singleton.mp hc]; exact w.w.at_ _ (List.mem_of_getElem? h), List.nodup_cons.mpr ⟨List.not_mem_nil, List.nodup_nil⟩⟩
/-- the ends of a def -/
theorem Wo.upE (w : Wo G0 H0 [] G H cs) : Up G0 H0 G H := ⟨w.f.gg, w.ex, fun a o h => w.f.fr a o h List.not_mem_nil, w.f.nw⟩
end
end Sim

namespace Sim
open PySem L2 Evl
section
variable {K : PySem.W.Frag} {σ : L2.St} {G0 H0 G H G2 H2 W : Hp} {ls : List Addr} {cs : Cs} {l : Addr} {cp cp' : CP} {ta tb te tc : TE} {t u : TT} {α β γ ι κ : Type} {R : Rep α} {S : Rep β} {T : Rep γ} {A : AR ι} {D : Ends} {tu tv tz : TS} {g : TG}

/-! ### expressions in the world -/
theorem c_e {m : Option α} {x : α} {Q : VK} (w : Wo G0 H0 ls G H cs) (h : E te σ G H R m) (hm : m = some x) (k : ∀ v H2 G2, Wo G0 H0 ls G2 H2 cs → Ex G G2 → R.r G2 v x → Q v H2) : te σ H Q :=
  h x hm H w.ex (Ex.refl _) Q fun v H2 G2 u r => k v H2 G2 (w.up u) u.gg r
/-- scalars: the value is written out, the data heap stays -/
theorem c_i {m : Option Int} {x : Int} {Q : VK} (w : Wo G0 H0 ls G H cs) (h : E te σ G H rI m) (hm : m = some x) (k : ∀ H2, Wo G0 H0 ls G H2 cs → Q (.int x) H2) : te σ H Q :=
  h x hm H w.ex (Ex.refl _) Q fun v H2 G2 u r => by cases r; exact k H2 (w.sc u.hh)
theorem c_b {m : Option Bool} {x : Bool} {Q : VK} (w : Wo G0 H0 ls G H cs) (h : E te σ G H rB m) (hm : m = some x) (k : ∀ H2, Wo G0 H0 ls G H2 cs → Q (.bl x) H2) : te σ H Q :=
  h x hm H w.ex (Ex.refl _) Q fun v H2 G2 u r => by cases r; exact k H2 (w.sc u.hh)
theorem c_s {m : Option Str} {x : Str} {Q : VK} (w : Wo G0 H0 ls G H cs) (h : E te σ G H rS m) (hm : m = some x) (k : ∀ H2, Wo G0 H0 ls G H2 cs → Q (.str x) H2) : te σ H Q :=
  h x hm H w.ex (Ex.refl _) Q fun v H2 G2 u r => by cases r; exact k H2 (w.sc u.hh)
theorem c_l {m : Option (List α)} {x : List α} {Q : VK} (w : Wo G0 H0 ls G H cs) (h : EL te σ G H R m) (hm : m = some x) (k : ∀ p H2 G2, H0 p = none → Wo G0 H0 ls G2 H2 ((p, cL R x) :: cs) → Ex G G2 → Q (.ref p) H2) : te σ H Q :=
  h x hm H w.ex (Ex.refl _) Q fun p H2 G2 hp u w2 => k p H2 G2 (by
    cases q : H0 p with
    | none => rfl
    | some o => exact absurd hp (w.f.st p (by rw [q]; simp))) (w.newL hp u w2) u.gg
theorem c_t {m : Option Bool} {b : Bool} {Q : Bool → Hp → Prop} (w : Wo G0 H0 ls G H cs) (h : ET t σ H m) (hm : m = some b) (k : ∀ H2, Wo G0 H0 ls G H2 cs → Q b H2) : t σ H Q :=
  h b hm H (Ex.refl _) Q fun H2 e => k H2 (w.sc e)
theorem c_a {m : Option ι} {x : ι} {ta : TA} {Q : List V → Hp → Prop} (w : Wo G0 H0 ls G H cs) (h : EA ta σ G H A m) (hm : m = some x) (k : ∀ vs H2 G2, Wo G0 H0 ls G2 H2 cs → Ex G G2 → A.r G2 vs x → Q vs H2) : ta σ H Q :=
  h x hm H w.ex (Ex.refl _) Q fun v H2 G2 u r => k v H2 G2 (w.up u) u.gg r
/-- an operation on values that stand -/
theorem c_rr {r : R2} {f : α → β → Option γ} {v w' : V} {x : α} {y : β} {z : γ} {Q : VK} (hr : RR r R S T f) (w : Wo G0 H0 ls G H cs) (hv : R.r G v x) (hw : S.r G w' y) (hz : f x y = some z)
    (k : ∀ u H2 G2, Wo G0 H0 ls G2 H2 cs → Ex G G2 → T.r G2 u z → Q u H2) : r v w' H Q := hr v w' x y z H G hv hw hz w.ex Q fun u H2 G2 up r => k u H2 G2 (w.up up) up.gg r
theorem c_rc {r : List V → Hp → VK → Prop} {f : ι → Option γ} {vs : List V} {i : ι} {z : γ} {Q : VK} (hr : RC r A T f) (w : Wo G0 H0 ls G H cs) (hv : A.r G vs i) (hz : f i = some z)
    (k : ∀ u H2 G2, Wo G0 H0 ls G2 H2 cs → Ex G G2 → T.r G2 u z → Q u H2) : r vs H Q := hr vs i z H G hv hz w.ex Q fun u H2 G2 up r => k u H2 G2 (w.up up) up.gg r
theorem c_rcl {r : List V → Hp → VK → Prop} {f : ι → Option (List γ)} {vs : List V} {i : ι} {z : List γ} {Q : VK} (hr : RCL r A T f) (w : Wo G0 H0 ls G H cs) (hv : A.r G vs i) (hz : f i = some z)
    (k : ∀ p H2 G2, H0 p = none → Wo G0 H0 ls G2 H2 ((p, cL T z) :: cs) → Ex G G2 → Q (.ref p) H2) : r vs H Q := hr vs i z H G hv hz w.ex Q fun p H2 G2 hp u w2 => k p H2 G2 (by
    cases q : H0 p with
    | none => rfl
    | some o => exact absurd hp (w.f.st p (by rw [q]; simp))) (w.newL hp u w2) u.gg

/-! ### a def that changes one cell -/
/-- (l, more) with the cell's items ys: f ys more = (x, ys') -/
abbrev P1 {κ α ι : Type} (A : AR ι) (C : Rep κ) (R : Rep α) (f : List κ → ι → Option (α × List κ)) : Sp := PM (aC rA A) (fun i k => [(i.1, cL C k)]) R (fun i k => f k i.2)
abbrev P1L {κ α ι : Type} (A : AR ι) (C : Rep κ) (R : Rep α) (f : List κ → ι → Option (List α × List κ)) : Sp := PML (aC rA A) (fun i k => [(i.1, cL C k)]) R (fun i k => f k i.2)
theorem c_p1 {C : Rep κ} {f : List κ → ι → Option (α × List κ)} {vs : List V} {i : Nat} {j : ι} {ys ys' : List κ} {x : α} {Q : VK} {X : XK} (w : Wo G0 H0 ls G H cs) (hc : cs[i]? = some (l, cL C ys)) (hv : A.r G vs j) (hz : f ys j = some (x, ys'))
    (k : ∀ v H2 G2, Wo G0 H0 ls G2 H2 (cs.set i (l, cL C ys')) → Ex G G2 → R.r G2 v x → Q v H2) : P1 A C R f (.ref l :: vs) H Q X :=
  ⟨G, (l, j), ys, x, ys', ⟨.ref l, vs, rfl, rfl, hv⟩, w.sub1 hc, hz, fun v H2 G2 fr w2 r => k v H2 G2 (w.call1 hc fr w2) fr.gg r⟩
theorem Wo.call1L {i : Nat} {p : Addr} {cq : CP} (w : Wo G0 H0 ls G H cs) (h : cs[i]? = some (l, cp)) (hp : H p = none) (f : Fr G H G2 H2 [l]) (w2 : Wd G2 H2 [(p, cq), (l, cp')]) : Wo G0 H0 ls G2 H2 ((p, cq) :: cs.set i (l, cp')) := by
  have n0 : H0 p = none := by
    cases q : H0 p with
    | none => rfl
    | some o => exact absurd hp (w.f.st p (by rw [q]; simp))
  have w3 := w.call1 h f w2.tail
  refine ⟨⟨w3.ex, fun c hc => ?_, ?_⟩, w3.f, fun c hc => ?_⟩
  · rcases List.mem_cons.mp hc with hc | hc
    · subst hc; exact w2.head
    · exact w3.w.at_ c hc
  · refine List.nodup_cons.mpr ⟨fun hm => ?_, w3.w.nd⟩
    rw [Sim.set_map (c := (l, cp)) h] at hm
    obtain ⟨c, hc, e⟩ := List.mem_map.mp hm
    obtain ⟨_, o', h2, _⟩ := w.w.at_ c hc
    exact ne_of_none h2 hp e
  · rcases List.mem_cons.mp hc with hc | hc
    · subst hc; exact .inr n0
    · exact w3.lo c hc
theorem c_p1l {C : Rep κ} {f : List κ → ι → Option (List α × List κ)} {vs : List V} {i : Nat} {j : ι} {ys ys' : List κ} {x : List α} {Q : VK} {X : XK} (w : Wo G0 H0 ls G H cs) (hc : cs[i]? = some (l, cL C ys)) (hv : A.r G vs j) (hz : f ys j = some (x, ys'))
    (k : ∀ p H2 G2, H0 p = none → Wo G0 H0 ls G2 H2 ((p, cL R x) :: cs.set i (l, cL C ys')) → Ex G G2 → Q (.ref p) H2) : P1L A C R f (.ref l :: vs) H Q X :=
  ⟨G, (l, j), ys, x, ys', ⟨.ref l, vs, rfl, rfl, hv⟩, w.sub1 hc, hz, fun p H2 G2 hp fr w2 => k p H2 G2 (by
    cases q : H0 p with
    | none => rfl
    | some o => exact absurd hp (w.f.st p (by rw [q]; simp))) (w.call1L hc hp fr w2) fr.gg⟩

/-! ### readings opened -/
theorem o_nil {Q : List V → Hp → Prop} (h : Q [] H) : tNil σ H Q := h
theorem o_cons {tr : TA} {Q : List V → Hp → Prop} (h : ta σ H fun x H1 => tr σ H1 fun xs H2 => Q (x :: xs) H2) : tCons ta tr σ H Q := h
theorem o_op {r : R2} {Q : VK} (h : ta σ H fun x H1 => tb σ H1 fun y H2 => r x y H2 Q) : tOp r ta tb σ H Q := h
theorem o_call {sp : Sp} {X : XK} {ta : TA} {Q : VK} (h : ta σ H fun vs H1 => sp vs H1 Q X) : tCall sp [] X ta σ H Q := by
  show ta σ H fun vs H1 => sp (vs ++ []) H1 Q X
  have : (fun (vs : List V) (H1 : Hp) => sp (vs ++ []) H1 Q X) = fun vs H1 => sp vs H1 Q X := by funext vs H1; rw [List.append_nil]
  rw [this]; exact h
theorem o_cb {r : List V → Hp → VK → Prop} {ta : TA} {Q : VK} (h : ta σ H fun vs H1 => r vs H1 Q) : tCB r ta σ H Q := h
theorem o_var {i : Nat} {v : V} {Q : VK} (hi : σ[i]? = some (some v)) (h : Q v H) : tVar i σ H Q := ⟨v, hi, h⟩
theorem o_T {Q : Bool → Hp → Prop} (h : te σ H fun v H1 => ∃ b, v = .bl b ∧ Q b H1) : tTest te σ H Q := h
theorem o_B {Q : Bool → Hp → Prop} (h : te σ H fun v H1 => ∃ b, v = .bl b ∧ Q b H1) : tB te σ H Q := h

/-! ### statements -/
theorem x_next {f b c : L2.St → Hp → Prop} {r : VK} (h : f σ H) : tNext { nx := f, rt := r, bk := b, ct := c } σ H := h
theorem x_set {i : Nat} {m : Option α} {x : α} (w : Wo G0 H0 ls G H cs) (h : E te σ G H R m) (hm : m = some x) (k : ∀ v H2 G2, Wo G0 H0 ls G2 H2 cs → Ex G G2 → R.r G2 v x → tz D (σ.set i (some v)) H2) : tSeq (tAsg te (gName i)) tz D σ H :=
  c_e (Q := fun x H1 => gName i x σ H1 (tz D)) w h hm k
theorem x_setI {i : Nat} {m : Option Int} {x : Int} (w : Wo G0 H0 ls G H cs) (h : E te σ G H rI m) (hm : m = some x) (k : ∀ H2, Wo G0 H0 ls G H2 cs → tz D (σ.set i (some (.int x))) H2) : tSeq (tAsg te (gName i)) tz D σ H :=
  c_i (Q := fun x H1 => gName i x σ H1 (tz D)) w h hm k
theorem x_setB {i : Nat} {m : Option Bool} {x : Bool} (w : Wo G0 H0 ls G H cs) (h : E te σ G H rB m) (hm : m = some x) (k : ∀ H2, Wo G0 H0 ls G H2 cs → tz D (σ.set i (some (.bl x))) H2) : tSeq (tAsg te (gName i)) tz D σ H :=
  c_b (Q := fun x H1 => gName i x σ H1 (tz D)) w h hm k
theorem x_setS {i : Nat} {m : Option Str} {x : Str} (w : Wo G0 H0 ls G H cs) (h : E te σ G H rS m) (hm : m = some x) (k : ∀ H2, Wo G0 H0 ls G H2 cs → tz D (σ.set i (some (.str x))) H2) : tSeq (tAsg te (gName i)) tz D σ H :=
  c_s (Q := fun x H1 => gName i x σ H1 (tz D)) w h hm k
theorem x_setL {i : Nat} {m : Option (List α)} {x : List α} (w : Wo G0 H0 ls G H cs) (h : EL te σ G H R m) (hm : m = some x) (k : ∀ p H2 G2, H0 p = none → Wo G0 H0 ls G2 H2 ((p, cL R x) :: cs) → Ex G G2 → tz D (σ.set i (some (.ref p))) H2) : tSeq (tAsg te (gName i)) tz D σ H :=
  c_l (Q := fun x H1 => gName i x σ H1 (tz D)) w h hm k
/-- name = an expression that changes cells: opened -/
theorem x_setO {i : Nat} (h : te σ H fun v H1 => tz D (σ.set i (some v)) H1) : tSeq (tAsg te (gName i)) tz D σ H := h
theorem x_if {m : Option Bool} {b : Bool} (w : Wo G0 H0 ls G H cs) (h : ET t σ H m) (hm : m = some b) (h1 : b = true → ∀ H2, Wo G0 H0 ls G H2 cs → tu { D with nx := tz D } σ H2) (h2 : b = false → ∀ H2, Wo G0 H0 ls G H2 cs → tv { D with nx := tz D } σ H2) :
    tSeq (tIfS t tu tv) tz D σ H := c_t (Q := fun b H1 => if b = true then tu { D with nx := tz D } σ H1 else tv { D with nx := tz D } σ H1) w h hm fun H2 w2 => by
  cases b with
  | true => exact h1 rfl H2 w2
  | false => exact h2 rfl H2 w2
/-- an if whose test changes cells -/
theorem x_ifO {b : Bool → Prop} (h : t σ H fun b H1 => (b = true → tu { D with nx := tz D } σ H1) ∧ (b = false → tv { D with nx := tz D } σ H1)) (mono : ∀ Q Q' : Bool → Hp → Prop, (∀ b H, Q b H → Q' b H) → t σ H Q → t σ H Q') : tSeq (tIfS t tu tv) tz D σ H :=
  mono _ _ (fun b H ⟨h1, h2⟩ => by
    cases b with
    | true => exact h1 rfl
    | false => exact h2 rfl) h
theorem x_cutif {m : Option Bool} {b : Bool} (M : L2.St → Hp → Prop) (w : Wo G0 H0 ls G H cs) (h : ET t σ H m) (hm : m = some b) (h1 : b = true → ∀ H2, Wo G0 H0 ls G H2 cs → tu { D with nx := M } σ H2) (h2 : b = false → ∀ H2, Wo G0 H0 ls G H2 cs → tv { D with nx := M } σ H2)
    (k : ∀ σ' H', M σ' H' → tz D σ' H') : tCut (tIfS t tu tv) tz D σ H := ⟨M, c_t (Q := fun b H1 => if b = true then tu { D with nx := M } σ H1 else tv { D with nx := M } σ H1) w h hm fun H2 w2 => by
  cases b with
  | true => exact h1 rfl H2 w2
  | false => exact h2 rfl H2 w2, k⟩
theorem x_ret {m : Option α} {x : α} (w : Wo G0 H0 ls G H cs) (h : E te σ G H R m) (hm : m = some x) (k : ∀ v H2 G2, Wo G0 H0 ls G2 H2 cs → Ex G G2 → R.r G2 v x → D.rt v H2) : tSeq (tRet te) tz D σ H := c_e (Q := D.rt) w h hm k
theorem x_retL {m : Option (List α)} {x : List α} (w : Wo G0 H0 ls G H cs) (h : EL te σ G H R m) (hm : m = some x) (k : ∀ p H2 G2, H0 p = none → Wo G0 H0 ls G2 H2 ((p, cL R x) :: cs) → Ex G G2 → D.rt (.ref p) H2) : tSeq (tRet te) tz D σ H := c_l (Q := D.rt) w h hm k
theorem x_retO (h : te σ H D.rt) : tSeq (tRet te) tz D σ H := h
theorem x_drop (h : te σ H fun _ H1 => tz D σ H1) : tSeq (tDrop te) tz D σ H := h
theorem x_aug {i : Nat} {a b z : Int} {m : Option Int} {f : Int → Int → Option Int} {ti : TIp} (w : Wo G0 H0 ls G H cs) (hi : σ[i]? = some (some (.int a))) (h : E te σ G H rI m) (hm : m = some b) (hr : RR ti rI rI rI f) (hz : f a b = some z)
    (k : ∀ H2, Wo G0 H0 ls G H2 cs → tz D (σ.set i (some (.int z))) H2) : tSeq (tAug i te ti) tz D σ H :=
  ⟨.int a, hi, c_i (Q := fun y H1 => ti (.int a) y H1 fun z H2 => tz D (σ.set i (some z)) H2) w h hm fun H2 w2 => hr _ _ a b z H2 G rfl rfl hz w2.ex _ fun u H3 G3 up r => by cases r; exact k H3 (w2.sc up.hh)⟩
/-! ### list cells, by methods -/
theorem x_app {i j : Nat} {m : Option α} {x : α} {xs : List α} (w : Wo G0 H0 ls G H cs) (hc : cs[j]? = some (l, cL R xs)) (hs : sz xs.length = true) (hi : σ[i]? = some (some (.ref l))) (h : E te σ G H R m) (hm : m = some x)
    (k : ∀ H2 G2, Wo G0 H0 ls G2 H2 (cs.set j (l, cL R (xs ++ [x]))) → Ex G G2 → tz D σ H2) : tSeq (tDrop (tBM K "list" rAppend (tVar i) (tCons te tNil))) tz D σ H := by
  obtain ⟨_, o, h2, vs, rfl, h3⟩ := w.w.getAt hc
  refine ⟨.ref l, hi, .inl ⟨rfl, vs, Or.inl (Or.inl h2)⟩, c_e (Q := fun x H1 => rAppend (.ref l) [x] H1 fun _ H3 => tz D σ H3) w h hm fun v H3 G3 w3 e r => ?_⟩
  obtain ⟨_, o3, k2, vs3, rfl, k3⟩ := w3.w.getAt hc
  refine ⟨l, vs3, v, rfl, rfl, k2, by rw [k3.length]; exact sz_l hs, k _ _ (w3.writeAt hc ⟨vs3 ++ [v], rfl, pr_app k3 (.cons r .nil)⟩) e⟩
/-- append, the item made by an expression that changes cells: the last step -/
theorem c_app {j : Nat} {x : α} {v : V} {xs : List α} {Q : VK} (w : Wo G0 H0 ls G H cs) (hc : cs[j]? = some (l, cL R xs)) (hs : sz xs.length = true) (r : R.r G v x) (k : ∀ H2, Wo G0 H0 ls G H2 (cs.set j (l, cL R (xs ++ [x]))) → Q .non H2) : rAppend (.ref l) [v] H Q := by
  obtain ⟨_, o3, k2, vs3, rfl, k3⟩ := w.w.getAt hc
  exact ⟨l, vs3, v, rfl, rfl, k2, by rw [k3.length]; exact sz_l hs, k _ (w.writeAt hc ⟨vs3 ++ [v], rfl, pr_app k3 (.cons r .nil)⟩)⟩
theorem o_bm {rr : V → List V → Hp → VK → Prop} {i j : Nat} {xs : List α} {ta : TA} {Q : VK} (w : Wo G0 H0 ls G H cs) (hc : cs[j]? = some (l, cL R xs)) (hi : σ[i]? = some (some (.ref l))) (h : ta σ H fun vs H2 => rr (.ref l) vs H2 Q) : tBM K "list" rr (tVar i) ta σ H Q := by
  obtain ⟨_, o, h2, vs, rfl, h3⟩ := w.w.getAt hc
  exact ⟨.ref l, hi, .inl ⟨rfl, vs, Or.inl (Or.inl h2)⟩, h⟩
theorem o_bm0 {rr : V → List V → Hp → VK → Prop} {i j : Nat} {xs : List α} {Q : VK} (w : Wo G0 H0 ls G H cs) (hc : cs[j]? = some (l, cL R xs)) (hi : σ[i]? = some (some (.ref l))) (h : rr (.ref l) [] H Q) : tBM0 K "list" rr (tVar i) σ H Q := by
  obtain ⟨_, o, h2, vs, rfl, h3⟩ := w.w.getAt hc
  exact ⟨.ref l, hi, .inl ⟨rfl, vs, Or.inl (Or.inl h2)⟩, h⟩
/-- xs.pop(), xs.pop(i), insert, reverse, clear -/
def popM (xs : List α) : Option (α × List α) := xs[xs.length - 1]? >>= fun x => some (x, xs.dropLast)
def popAtM (xs : List α) (i : Int) : Option (α × List α) := if -(2 ^ 63) ≤ i ∧ i < 2 ^ 63 then (seqIndex? i xs.length >>= fun k => xs[k]? >>= fun x => some (x, xs.eraseIdx k)) else none
def insM (xs : List α) (i : Int) (x : α) : Option (List α) := if sz xs.length = true ∧ 0 ≤ i ∧ i < 2 ^ 63 then some (xs.take i.toNat ++ [x] ++ xs.drop i.toNat) else none
def appM (xs : List α) (x : α) : Option (List α) := bif sz xs.length then some (xs ++ [x]) else none
theorem appM_ok {xs ys : List α} {x : α} (h : appM xs x = some ys) : sz xs.length = true ∧ ys = xs ++ [x] := by
  unfold appM at h
  cases e : sz xs.length with
  | true => rw [e] at h; exact ⟨rfl, (Option.some.inj h).symm⟩
  | false => rw [e] at h; cases h
theorem pr_take {R : V → α → Prop} : ∀ (n : Nat) {vs : List V} {xs : List α}, Paired R vs xs → Paired R (vs.take n) (xs.take n)
  | 0, _, _, _ => .nil
  | n + 1, _, _, .nil => .nil
  | n + 1, _, _, .cons r t => .cons r (pr_take n t)
theorem pr_drop {R : V → α → Prop} : ∀ (n : Nat) {vs : List V} {xs : List α}, Paired R vs xs → Paired R (vs.drop n) (xs.drop n)
  | 0, _, _, h => h
  | n + 1, _, _, .nil => .nil
  | n + 1, _, _, .cons r t => pr_drop n t
theorem pr_erase {R : V → α → Prop} : ∀ (n : Nat) {vs : List V} {xs : List α}, Paired R vs xs → Paired R (vs.eraseIdx n) (xs.eraseIdx n)
  | _, _, _, .nil => .nil
  | 0, _, _, .cons r t => t
  | n + 1, _, _, .cons r t => .cons r (pr_erase n t)
theorem pr_set {R : V → α → Prop} {v : V} {x : α} (r0 : R v x) : ∀ (n : Nat) {vs : List V} {xs : List α}, Paired R vs xs → Paired R (vs.set n v) (xs.set n x)
  | _, _, _, .nil => .nil
  | 0, _, _, .cons r t => .cons r0 t
  | n + 1, _, _, .cons r t => .cons r (pr_set r0 n t)
theorem pr_dropLast {R : V → α → Prop} {vs : List V} {xs : List α} (h : Paired R vs xs) : Paired R vs.dropLast xs.dropLast := by
  rw [List.dropLast_eq_take, List.dropLast_eq_take, h.length]; exact pr_take _ h
theorem pr_rev {R : V → α → Prop} : ∀ {vs : List V} {xs : List α}, Paired R vs xs → Paired R vs.reverse xs.reverse
  | _, _, .nil => .nil
  | _, _, .cons r t => by rw [List.reverse_cons, List.reverse_cons]; exact pr_app (pr_rev t) (.cons r .nil)
theorem c_pop {j : Nat} {x : α} {xs ys : List α} {Q : VK} (w : Wo G0 H0 ls G H cs) (hc : cs[j]? = some (l, cL R xs)) (hm : popM xs = some (x, ys)) (k : ∀ v H2, Wo G0 H0 ls G H2 (cs.set j (l, cL R ys)) → R.r G v x → Q v H2) : rPop (.ref l) [] H Q := by
  obtain ⟨_, o3, k2, vs, rfl, k3⟩ := w.w.getAt hc
  obtain ⟨x', hx, e⟩ := bindS hm
  cases e
  obtain ⟨v, hv, r⟩ := pr_get k3 hx
  exact ⟨l, vs, v, rfl, rfl, k2, by rw [k3.length]; exact hv, k v _ (w.writeAt hc ⟨vs.dropLast, rfl, pr_dropLast k3⟩) r⟩
theorem c_popAt {j : Nat} {i : Int} {x : α} {xs ys : List α} {Q : VK} (w : Wo G0 H0 ls G H cs) (hc : cs[j]? = some (l, cL R xs)) (hm : popAtM xs i = some (x, ys)) (k : ∀ v H2, Wo G0 H0 ls G H2 (cs.set j (l, cL R ys)) → R.r G v x → Q v H2) : rPopAt (.ref l) [.int i] H Q := by
  obtain ⟨_, o3, k2, vs, rfl, k3⟩ := w.w.getAt hc
  unfold popAtM at hm
  split at hm
  · rename_i hb
    obtain ⟨n, hn, hm⟩ := bindS hm
    obtain ⟨x', hx, e⟩ := bindS hm
    cases e
    obtain ⟨v, hv, r⟩ := pr_get k3 hx
    exact ⟨l, vs, i, n, v, rfl, rfl, k2, hb.1, hb.2, by rw [k3.length]; exact hn, hv, k v _ (w.writeAt hc ⟨vs.eraseIdx n, rfl, pr_erase n k3⟩) r⟩
  · cases hm
abbrev rIns : V → List V → Hp → VK → Prop := fun x vs H Q => ∃ (l : Addr) (xs : List V) (i : Int) (y : V), x = .ref l ∧ vs = [.int i, y] ∧ H l = some (.lst xs) ∧ xs.length < sizeLine ∧ 0 ≤ i ∧ i < 2 ^ 63 ∧ Q .non (upd H l (.lst (xs.take i.toNat ++ [y] ++ xs.drop i.toNat)))
def rInsN : V → List V → Hp → VK → Prop := rIns
theorem c_ins {j : Nat} {i : Int} {x : α} {v : V} {xs ys : List α} {Q : VK} (w : Wo G0 H0 ls G H cs) (hc : cs[j]? = some (l, cL R xs)) (r : R.r G v x) (hm : insM xs i x = some ys) (k : ∀ H2, Wo G0 H0 ls G H2 (cs.set j (l, cL R ys)) → Q .non H2) : rInsN (.ref l) [.int i, v] H Q := by
  obtain ⟨_, o3, k2, vs, rfl, k3⟩ := w.w.getAt hc
  unfold insM at hm
  split at hm
  · rename_i hb
    cases hm
    exact ⟨l, vs, i, v, rfl, rfl, k2, by rw [k3.length]; exact sz_l hb.1, hb.2.1, hb.2.2, k _ (w.writeAt hc ⟨_, rfl, pr_app (pr_app (pr_take _ k3) (.cons r .nil)) (pr_drop _ k3)⟩)⟩
  · cases hm
theorem c_rev {j : Nat} {xs : List α} {Q : VK} (w : Wo G0 H0 ls G H cs) (hc : cs[j]? = some (l, cL R xs)) (k : ∀ H2, Wo G0 H0 ls G H2 (cs.set j (l, cL R xs.reverse)) → Q .non H2) : rReverse (.ref l) [] H Q := by
  obtain ⟨_, o3, k2, vs, rfl, k3⟩ := w.w.getAt hc
  exact ⟨l, vs, rfl, rfl, k2, k _ (w.writeAt hc ⟨_, rfl, pr_rev k3⟩)⟩
theorem c_clear {j : Nat} {xs : List α} {Q : VK} (w : Wo G0 H0 ls G H cs) (hc : cs[j]? = some (l, cL R xs)) (k : ∀ H2, Wo G0 H0 ls G H2 (cs.set j (l, cL R [])) → Q .non H2) : rClear (.ref l) [] H Q := by
  obtain ⟨_, o3, k2, vs, rfl, k3⟩ := w.w.getAt hc
  exact ⟨l, vs, rfl, rfl, k2, k _ (w.writeAt hc ⟨_, rfl, .nil⟩)⟩
theorem mt_insN {X : Cx} : MtR X "list.insert" rInsN := mt_insert
/-- xs[i] = e -/
def setM (xs : List α) (i : Int) (x : α) : Option (List α) := ixN xs.length i >>= fun j => some (xs.set j x)
theorem x_setIx {a j : Nat} {te ti : TE} {m : Option α} {mi : Option Int} {x : α} {i : Int} {xs ys : List α} (w : Wo G0 H0 ls G H cs) (hc : cs[j]? = some (l, cL R xs)) (hi : σ[a]? = some (some (.ref l))) (h : E te σ G H R m) (hm : m = some x)
    (h' : E ti σ G H rI mi) (hm' : mi = some i) (hy : setM xs i x = some ys) (k : ∀ H2 G2, Wo G0 H0 ls G2 H2 (cs.set j (l, cL R ys)) → Ex G G2 → tz D σ H2) : tSeq (tAsg te (gSub (tVar a) ti rSetL)) tz D σ H :=
  h x hm H w.ex (Ex.refl _) (fun x H1 => gSub (tVar a) ti rSetL x σ H1 (tz D)) fun v H3 G3 u r => by
    have w3 := w.up u
    refine ⟨.ref l, hi, (h'.mono u.gg u.hh) i hm' H3 w3.ex (Ex.refl _) _ fun v' H4 G4 u' r' => ?_⟩
    cases r'
    have w4 := w3.up u'
    obtain ⟨_, o3, k2, vs, rfl, k3⟩ := w4.w.getAt hc
    obtain ⟨n, hn, e⟩ := bindS hy
    cases e
    exact ⟨l, vs, i, n, rfl, rfl, k2, by rw [k3.length]; exact hn, k _ _ (w4.writeAt hc ⟨_, rfl, pr_set (R.mono u'.gg r) n k3⟩) (u.gg.trans u'.gg)⟩

/-! ### loops -/
theorem x_forL {xs : List α} {tl : TE} {m : Option (List α)} (w : Wo G0 H0 ls G H cs) (h : E tl σ G H (rL R) m) (hm : m = some xs) (P : Nat → Hp → Hp → L2.St → Prop) (hP : ∀ i G' H' σ', P i G' H' σ' → Ex G' H')
    (h0 : ∀ G' H', Wo G0 H0 ls G' H' cs → Ex G G' → P 0 G' H' σ)
    (hs : ∀ G1, Ex G G1 → ∀ i x v σ' G' H', xs[i]? = some x → Ex G1 G' → P i G' H' σ' → R.r G' v x → g v σ' H' fun σ2 H2 => tu { D with nx := fun σ' H' => ∃ G', Ex G1 G' ∧ P (i + 1) G' H' σ', ct := fun σ' H' => ∃ G', Ex G1 G' ∧ P (i + 1) G' H' σ', bk := tz D } σ2 H2)
    (hd : ∀ σ' G' H', Ex G G' → P xs.length G' H' σ' → tz D σ' H') : tSeq (tFor (iList K tl) g tu) tz D σ H :=
  h xs hm H w.ex (Ex.refl _) _ fun v H1 G1 u r => by
    obtain ⟨a, vs, rfl, h2, h3⟩ := r
    refine ⟨a, rfl, ⟨vs, Or.inl (Or.inl (u.gh a _ h2))⟩, for_list (K := K) (a := a) (xs := vs) (fun i σ' H' => ∃ G', Ex G1 G' ∧ P i G' H' σ') ⟨G1, Ex.refl _, h0 G1 H1 (w.up u) u.gg⟩ ?_ ?_ ?_⟩
    · rintro i σ' H' _ ⟨G', e, p⟩
      exact Or.inl (Or.inl (hP _ _ _ _ p a _ (e a _ h2)))
    · rintro i y σ' H' hy ⟨G', e, p⟩
      obtain ⟨x, hx, r⟩ := pr_get' h3 hy
      exact hs G1 u.gg i x y σ' G' H' hx e p (R.mono e r)
    · rintro σ' H' ⟨G', e, p⟩
      rw [h3.length] at p
      exact hd σ' G' H' (u.gg.trans e) p
theorem x_forR {ta : TA} {n : Int} {m : Option (Int × Unit)} {xs : List Int} (w : Wo G0 H0 ls G H cs) (h : EA ta σ G H (aC rI aN) m) (hm : m = some (n, ())) (hx : rngM 0 n = some xs) (P : Nat → Hp → Hp → L2.St → Prop)
    (h0 : ∀ G' H', Wo G0 H0 ls G' H' cs → Ex G G' → P 0 G' H' σ)
    (hs : ∀ i x σ' G' H', xs[i]? = some x → P i G' H' σ' → g (.int x) σ' H' fun σ2 H2 => tu { D with nx := fun σ' H' => ∃ G', P (i + 1) G' H' σ', ct := fun σ' H' => ∃ G', P (i + 1) G' H' σ', bk := tz D } σ2 H2)
    (hd : ∀ σ' G' H', P xs.length G' H' σ' → tz D σ' H') : tSeq (tFor (iRng1 ta) g tu) tz D σ H :=
  h _ hm H w.ex (Ex.refl _) _ fun v H1 G1 u r => by
    obtain ⟨v1, ws, rfl, e1, rfl⟩ := r
    cases e1
    unfold rngM at hx
    split at hx
    · rename_i hb
      cases hx
      refine ⟨n, rfl, by omega, by omega, for_range (lo := 0) (n := n.toNat) (fun i σ' H' => ∃ G', P i G' H' σ') ⟨G1, h0 G1 H1 (w.up u) u.gg⟩ ?_ ?_⟩
      · rintro i σ' H' hi ⟨G', p⟩
        exact hs i _ σ' G' H' (rng_get (by omega)) p
      · rintro σ' H' ⟨G', p⟩
        refine hd σ' G' H' ?_
        rw [rng_len]
        have : (n - 0).toNat = n.toNat := by omega
        rw [this]; exact p
    · cases hx
theorem x_forR2 {ta : TA} {lo n : Int} {m : Option (Int × Int × Unit)} {xs : List Int} (w : Wo G0 H0 ls G H cs) (h : EA ta σ G H (aC rI (aC rI aN)) m) (hm : m = some (lo, n, ())) (hx : rngM lo n = some xs) (P : Nat → Hp → Hp → L2.St → Prop)
    (h0 : ∀ G' H', Wo G0 H0 ls G' H' cs → Ex G G' → P 0 G' H' σ)
    (hs : ∀ i x σ' G' H', xs[i]? = some x → P i G' H' σ' → g (.int x) σ' H' fun σ2 H2 => tu { D with nx := fun σ' H' => ∃ G', P (i + 1) G' H' σ', ct := fun σ' H' => ∃ G', P (i + 1) G' H' σ', bk := tz D } σ2 H2)
    (hd : ∀ σ' G' H', P xs.length G' H' σ' → tz D σ' H') : tSeq (tFor (iRng2 ta) g tu) tz D σ H :=
  h _ hm H w.ex (Ex.refl _) _ fun v H1 G1 u r => by
    obtain ⟨v1, ws, rfl, e1, v2, ws2, rfl, e2, rfl⟩ := r
    cases e1
    cases e2
    unfold rngM at hx
    split at hx
    · rename_i hb
      cases hx
      refine ⟨lo, n, rfl, ⟨by omega, by omega, by omega, by omega⟩, for_range (lo := lo) (n := (n - lo).toNat) (fun i σ' H' => ∃ G', P i G' H' σ') ⟨G1, h0 G1 H1 (w.up u) u.gg⟩ ?_ ?_⟩
      · rintro i σ' H' hi ⟨G', p⟩
        exact hs i _ σ' G' H' (rng_get hi) p
      · rintro σ' H' ⟨G', p⟩
        refine hd σ' G' H' ?_
        rw [rng_len]
        exact p
    · cases hx
theorem g_name {j : Nat} {v : V} {Q : L2.St → Hp → Prop} (h : Q (σ.set j (some v)) H) : gName j v σ H Q := h
theorem g_pair {i j : Nat} {v : V} {p : α × β} {Q : L2.St → Hp → Prop} (r : (rP R S).r G v p) (e : Ex G H) (k : ∀ x y, R.r G x p.1 → S.r G y p.2 → Q ((σ.set i (some x)).set j (some y)) H) : gTup K 2 (gCons (gName i) (gCons (gName j) gNil)) v σ H Q := by
  obtain ⟨a, x, y, rfl, h2, h3, h4⟩ := r
  exact ⟨a, [x, y], rfl, Or.inl (Or.inl (e a _ h2)), rfl, x, [y], rfl, y, [], rfl, rfl, k x y h3 h4⟩
/-- while -/
theorem x_wh {ρ ς : Type} {c : ς → Option Bool} {body : ς → Option (Stp ς ρ)} {n : Nat} {s : ς} {r : ς ⊕ ρ} (hm : whL c body n s = some r) (P : ς → L2.St → Hp → Prop) (h0 : P s σ H)
    (ht : ∀ n s σ' H', P s σ' H' → whL c body n s = some r → ∃ b, c s = some b ∧ ∀ Q : Bool → Hp → Prop, (∀ H2, P s σ' H2 → Q b H2) → t σ' H' Q)
    (hs : ∀ n s σ' H', P s σ' H' → (body s >>= stpK (whL c body n)) = some r → tu { D with nx := fun σ2 H2 => ∃ s2, P s2 σ2 H2 ∧ whL c body n s2 = some r, ct := fun σ2 H2 => ∃ s2, P s2 σ2 H2 ∧ whL c body n s2 = some r, bk := tz D } σ' H')
    (hd : ∀ s σ' H', P s σ' H' → r = .inl s → tz D σ' H') : tSeq (tWhile t tu) tz D σ H := by
  refine ⟨fun n σ' H' => ∃ s, P s σ' H' ∧ whL c body n s = some r, ⟨n, s, h0, hm⟩, ?_⟩
  rintro n σ' H' ⟨s, p, hm⟩
  obtain ⟨b, hb, kb⟩ := ht n s σ' H' p hm
  refine kb _ fun H2 p2 => ?_
  cases n with
  | zero => cases hm
  | succ n =>
    have hm' : (c s >>= fun b => bif b then body s >>= stpK (whL c body n) else some (.inl s)) = some r := hm
    rw [hb] at hm'
    cases b with
    | true => exact ⟨_, fun σ2 H2 ⟨s2, q⟩ => ⟨n, Nat.lt_succ_self n, s2, q⟩, hs n s σ' H2 p2 hm'⟩
    | false => exact hd s σ' H2 p2 (Option.some.inj hm').symm
end
end Sim

namespace Sim
open PySem L2 Evl
section
variable {α β : Type}
/-- [f2 x for x in xs if f x] -/
def lcM (f : α → Option Bool) (f2 : α → Option β) : List α → Option (List β)
  | [] => some []
  | x :: xs => f x >>= fun b => bif b then f2 x >>= fun y => lcM f f2 xs >>= fun ys => some (y :: ys) else lcM f f2 xs
/-- [f2 x for x in xs] -/
def mapO (f2 : α → Option β) : List α → Option (List β)
  | [] => some []
  | x :: xs => f2 x >>= fun y => mapO f2 xs >>= fun ys => some (y :: ys)
def lcS (f : α → Option Bool) (f2 : α → Option β) (xs : List α) : Option (List β) := bif sz xs.length then lcM f f2 xs else none
def mapS (f2 : α → Option β) (xs : List α) : Option (List β) := bif sz xs.length then mapO f2 xs else none
theorem lcM_true (f2 : α → Option β) : ∀ xs, lcM (fun _ => some true) f2 xs = mapO f2 xs
  | [] => rfl
  | x :: xs => by
    show (f2 x >>= fun y => lcM (fun _ => some true) f2 xs >>= fun ys => some (y :: ys)) = _
    rw [lcM_true f2 xs]; rfl
theorem mapS_eq (f2 : α → Option β) : mapS f2 = lcS (fun _ => some true) f2 := by
  funext xs
  unfold mapS lcS
  rw [lcM_true]
theorem lcS_ok {f : α → Option Bool} {f2 : α → Option β} {xs : List α} {ys : List β} (h : lcS f f2 xs = some ys) : sz xs.length = true ∧ lcM f f2 xs = some ys := by
  unfold lcS at h
  cases e : sz xs.length with
  | true => rw [e] at h; exact ⟨rfl, h⟩
  | false => rw [e] at h; cases h
end
section
variable {K : PySem.W.Frag} {σ : L2.St} {G H W : Hp} {te tl : TE} {tt : TT} {α β γ : Type} {R : Rep α} {S : Rep β} {T : Rep γ}
/-- a turn's word: the list so far, what is left -/
def Lw (G0 H0 : Hp) (T : Rep γ) (f : α → Option Bool) (f2 : α → Option γ) (xs : List α) (zs : List γ) (D : Addr) (i : Nat) (H : Hp) : Prop :=
  ∃ G acc ys rest, H0 D = none ∧ Up G0 H0 G H ∧ G D = none ∧ H D = some (.lst acc) ∧ Paired (T.r G) acc ys ∧ lcM f f2 (xs.drop i) = some rest ∧ ys ++ rest = zs ∧ ys.length ≤ i
theorem lw_turn {G0 H0 H : Hp} {f : α → Option Bool} {f2 : α → Option γ} {xs : List α} {zs : List γ} {D : Addr} {i : Nat} {x : α} {σ2 : L2.St} (hx : xs[i]? = some x) (hs : sz xs.length = true) (p : Lw G0 H0 T f f2 xs zs D i H)
    (ht : ∀ G', Ex G0 G' → Ex H0 H → Ex G' H → ET tt σ2 H (f x)) (he : ∀ G' H', Ex G0 G' → Ex H0 H' → Ex H H' → Ex G' H' → E te σ2 G' H' T (f2 x)) :
    tt σ2 H fun b H3 => if b = true then te σ2 H3 fun y H4 => ∃ acc, H4 D = some (.lst acc) ∧ acc.length < sizeLine ∧ Lw G0 H0 T f f2 xs zs D (i + 1) (upd H4 D (.lst (acc ++ [y]))) else Lw G0 H0 T f f2 xs zs D (i + 1) H3 := by
  obtain ⟨G, acc, ys, rest, p1, p2, p3, p4, p5, p6, p7, p8⟩ := p
  rw [drop_at hx] at p6
  obtain ⟨b, hb, p6⟩ := bindS p6
  have hi : i < xs.length := (List.getElem?_eq_some_iff.mp hx).1
  refine ht G p2.gg p2.hh p2.gh b hb H (Ex.refl _) _ fun H3 e3 => ?_
  cases b with
  | false => exact ⟨G, acc, ys, rest, p1, p2.trans (Up.same p2.gh e3), p3, e3 _ _ p4, p5, p6, p7, Nat.le_succ_of_le p8⟩
  | true =>
    obtain ⟨y, hy, p6⟩ := bindS p6
    obtain ⟨r2, hr, p6⟩ := bindS p6
    cases p6
    show te σ2 H3 _
    refine he G H3 p2.gg (p2.hh.trans e3) e3 (p2.gh.trans e3) y hy H3 (p2.gh.trans e3) (Ex.refl _) _ fun v H4 G4 u r => ?_
    have q2 : Up G0 H0 G4 H4 := (p2.trans (Up.same p2.gh e3)).trans u
    have q3 : G4 D = none := u.nw D (by rw [e3 _ _ p4]; simp) p3
    have q4 := u.hh _ _ (e3 _ _ p4)
    refine ⟨acc, q4, by rw [p5.length]; exact sz_lt (by have := of_decide_eq_true hs; omega), G4, acc ++ [v], ys ++ [y], r2, p1, ⟨q2.gg, fun a o h => ?_, Ex.mut q2.hh p1, q2.nw⟩, q3, upd_same, pr_app (Paired.mapP p5 fun _ _ => T.mono u.gg) (.cons r .nil), hr, by rw [List.append_assoc]; exact p7, by rw [List.length_append]; exact Nat.succ_le_succ p8⟩
    rw [upd_ne (fun z => by subst z; rw [q3] at h; cases h)]
    exact q2.gh a o h
theorem lw_end {G0 H0 H : Hp} {f : α → Option Bool} {f2 : α → Option γ} {xs : List α} {zs : List γ} {D : Addr} (p : Lw G0 H0 T f f2 xs zs D xs.length H) : ∃ G, H0 D = none ∧ Up G0 H0 G H ∧ Wd G H [(D, cL T zs)] := by
  obtain ⟨G, acc, ys, rest, p1, p2, p3, p4, p5, p6, p7, p8⟩ := p
  rw [List.drop_length] at p6
  cases p6
  rw [List.append_nil] at p7
  subst p7
  exact ⟨G, p1, p2, p2.gh, fun c hc => by
    rw [List.mem_singleton.mp hc]; exact ⟨p3, _, p4, acc, rfl, p5⟩, List.nodup_cons.mpr ⟨List.not_mem_nil, List.nodup_nil⟩⟩
theorem lw_start {G0 H0 : Hp} {f : α → Option Bool} {f2 : α → Option γ} {xs : List α} {zs : List γ} {D : Addr} (e : Ex G0 H0) (hD : H0 D = none) (h : lcM f f2 xs = some zs) : Lw G0 H0 T f f2 xs zs D 0 (upd H0 D (.lst [])) :=
  ⟨G0, [], [], zs, hD, up_new e hD, fresh_back e hD, upd_same, .nil, h, rfl, Nat.le_refl _⟩
theorem el_lcL {vs : List Nat} {j : Nat} {m : Option (List α)} {f : α → Option Bool} {f2 : α → Option γ} (h : E tl σ G W (rL R) m) (hw : ∀ x, wipe ((wipe σ vs).set j (some x)) vs = wipe σ vs)
    (ht : ∀ x v G' W', Ex G G' → Ex W W' → Ex G' W' → R.r G' v x → ET tt ((wipe σ vs).set j (some v)) W' (f x))
    (he : ∀ x v G' W', Ex G G' → Ex W W' → Ex G' W' → R.r G' v x → E te ((wipe σ vs).set j (some v)) G' W' T (f2 x)) :
    EL (tLc (iList K tl) (gName j) tt te vs) σ G W T (m >>= fun xs => lcS f f2 xs) := fun zs hz H e e' Q q => by
  obtain ⟨xs, hx, hz⟩ := bindS hz
  obtain ⟨hs, hz⟩ := lcS_ok hz
  refine h xs hx H e e' _ fun v H1 G1 u r => ?_
  obtain ⟨a, us, rfl, h2, h3⟩ := r
  refine ⟨a, rfl, ⟨us, Or.inl (Or.inl (u.gh a _ h2))⟩, fun D hD => lc_list (xs := us) (Lw G1 H1 T f f2 xs zs D) (lw_start u.gh hD hz) (fun i H' _ p => ?_) (fun i y H' hy p => ?_) fun H' p => ?_⟩
  · obtain ⟨G', _, _, _, _, p2, _⟩ := p
    exact Or.inl (Or.inl (p2.gh a _ (p2.gg a _ h2)))
  · obtain ⟨x, hx', r⟩ := pr_get' h3 hy
    exact ⟨hw y, lw_turn hx' hs p (fun G' e1 e2 e3 => ht x y G' H' (u.gg.trans e1) ((e'.trans u.hh).trans e2) e3 (R.mono e1 r)) fun G' H2 e1 e2 _ e3 => he x y G' H2 (u.gg.trans e1) ((e'.trans u.hh).trans e2) e3 (R.mono e1 r)⟩
  · rw [h3.length] at p
    obtain ⟨G', k1, k2, k3⟩ := lw_end p
    exact q D H' G' (fresh_back u.hh k1) (u.trans k2) k3
theorem el_lcR {ta : TA} {vs : List Nat} {j : Nat} {m : Option (Int × Unit)} {f : Int → Option Bool} {f2 : Int → Option γ} (h : EA ta σ G W (aC rI aN) m) (hw : ∀ x, wipe ((wipe σ vs).set j (some x)) vs = wipe σ vs)
    (ht : ∀ x G' W', Ex G G' → Ex W W' → Ex G' W' → ET tt ((wipe σ vs).set j (some (.int x))) W' (f x))
    (he : ∀ x G' W', Ex G G' → Ex W W' → Ex G' W' → E te ((wipe σ vs).set j (some (.int x))) G' W' T (f2 x)) :
    EL (tLc (iRng1 ta) (gName j) tt te vs) σ G W T (m >>= fun n => rngM 0 n.1 >>= fun xs => lcS f f2 xs) := fun zs hz H e e' Q q => by
  obtain ⟨n, hn, hz⟩ := bindS hz
  obtain ⟨xs, hx, hz⟩ := bindS hz
  obtain ⟨hs, hz⟩ := lcS_ok hz
  refine h n hn H e e' _ fun v H1 G1 u r => ?_
  obtain ⟨v1, ws, rfl, e1, rfl⟩ := r
  cases e1
  unfold rngM at hx
  split at hx
  · rename_i hb
    cases hx
    have hl : (rng 0 n.1).length = n.1.toNat := by rw [rng_len]; omega
    refine ⟨n.1, rfl, by omega, by omega, fun D hD => lc_range (lo := 0) (n := n.1.toNat) (Lw G1 H1 T f f2 (rng 0 n.1) zs D) (lw_start u.gh hD hz) (fun i H' hi p => ?_) fun H' p => ?_⟩
    · have hx' : (rng 0 n.1)[i]? = some (0 + (i : Int)) := rng_get (by omega)
      exact ⟨hw _, lw_turn hx' hs p (fun G' e1 e2 e3 => ht _ G' H' (u.gg.trans e1) ((e'.trans u.hh).trans e2) e3) fun G' H2 e1 e2 _ e3 => he _ G' H2 (u.gg.trans e1) ((e'.trans u.hh).trans e2) e3⟩
    · rw [← hl] at p
      obtain ⟨G', k1, k2, k3⟩ := lw_end p
      exact q D H' G' (fresh_back u.hh k1) (u.trans k2) k3
  · cases hx
/-- the target a pair of names -/
theorem el_lcP {vs : List Nat} {i j : Nat} {m : Option (List (α × β))} {f : α × β → Option Bool} {f2 : α × β → Option γ} (h : E tl σ G W (rL (rP R S)) m) (hw : ∀ x y, wipe (((wipe σ vs).set i (some x)).set j (some y)) vs = wipe σ vs)
    (ht : ∀ p v w G' W', Ex G G' → Ex W W' → Ex G' W' → R.r G' v p.1 → S.r G' w p.2 → ET tt (((wipe σ vs).set i (some v)).set j (some w)) W' (f p))
    (he : ∀ p v w G' W', Ex G G' → Ex W W' → Ex G' W' → R.r G' v p.1 → S.r G' w p.2 → E te (((wipe σ vs).set i (some v)).set j (some w)) G' W' T (f2 p)) :
    EL (tLc (iList K tl) (gTup K 2 (gCons (gName i) (gCons (gName j) gNil))) tt te vs) σ G W T (m >>= fun xs => lcS f f2 xs) := fun zs hz H e e' Q q => by
  obtain ⟨xs, hx, hz⟩ := bindS hz
  obtain ⟨hs, hz⟩ := lcS_ok hz
  refine h xs hx H e e' _ fun v H1 G1 u r => ?_
  obtain ⟨a, us, rfl, h2, h3⟩ := r
  refine ⟨a, rfl, ⟨us, Or.inl (Or.inl (u.gh a _ h2))⟩, fun D hD => lc_list (xs := us) (Lw G1 H1 T f f2 xs zs D) (lw_start u.gh hD hz) (fun i H' _ p => ?_) (fun k y H' hy p => ?_) fun H' p => ?_⟩
  · obtain ⟨G', _, _, _, _, p2, _⟩ := p
    exact Or.inl (Or.inl (p2.gh a _ (p2.gg a _ h2)))
  · obtain ⟨x, hx', b, v, w, rfl, k2, k3, k4⟩ := pr_get' h3 hy
    have k5 : H' b = some (.tup [v, w]) := by
      obtain ⟨G', _, _, _, _, p2, _⟩ := p
      exact p2.gh b _ (p2.gg b _ k2)
    refine ⟨b, [v, w], rfl, Or.inl (Or.inl k5), rfl, v, [w], rfl, w, [], rfl, rfl, hw v w, ?_⟩
    exact lw_turn hx' hs p (fun G' e1 e2 e3 => ht x v w G' H' (u.gg.trans e1) ((e'.trans u.hh).trans e2) e3 (R.mono e1 k3) (S.mono e1 k4)) fun G' H2 e1 e2 _ e3 => he x v w G' H2 (u.gg.trans e1) ((e'.trans u.hh).trans e2) e3 (R.mono e1 k3) (S.mono e1 k4)
  · rw [h3.length] at p
    obtain ⟨G', k1, k2, k3⟩ := lw_end p
    exact q D H' G' (fresh_back u.hh k1) (u.trans k2) k3
theorem et_yes : ET tYes σ W (some true) := fun b hb H _ Q q => by
  cases hb
  exact q H (Ex.refl _)
/-- no test: mapS -/
theorem el_map {m : Option (List α)} {f2 : α → Option γ} {te : TE} (h : EL te σ G W T (m >>= fun xs => lcS (fun _ => some true) f2 xs)) : EL te σ G W T (m >>= fun xs => mapS f2 xs) := by rw [mapS_eq]; exact h
theorem el_mapR {m : Option (Int × Unit)} {f2 : Int → Option γ} {te : TE} (h : EL te σ G W T (m >>= fun n => rngM 0 n.1 >>= fun xs => lcS (fun _ => some true) f2 xs)) : EL te σ G W T (m >>= fun n => rngM 0 n.1 >>= fun xs => mapS f2 xs) := by rw [mapS_eq]; exact h
end
end Sim

namespace Sim
open PySem L2 Evl
section
variable {K : PySem.W.Frag} {σ : L2.St} {G0 H0 G H G2 H2 W : Hp} {ls : List Addr} {cs : Cs} {l : Addr} {cp cp' : CP} {ta tb te tc : TE} {t u : TT} {α β γ ι κ : Type} {R : Rep α} {S : Rep β} {T : Rep γ} {A : AR ι} {D : Ends} {tu tv tz : TS} {g : TG}
theorem E.is {m : Option α} {x : α} (h : E te σ G W R m) (hm : m = some x) : E te σ G W R (some x) := by rw [← hm]; exact h
theorem ET.is {m : Option Bool} {x : Bool} (h : ET t σ W m) (hm : m = some x) : ET t σ W (some x) := by rw [← hm]; exact h
theorem EL.is {m : Option (List α)} {x : List α} (h : EL te σ G W R m) (hm : m = some x) : EL te σ G W R (some x) := by rw [← hm]; exact h
theorem e_andP {a b : Bool} (h1 : E ta σ G W rB (some a)) (h2 : E tb σ G W rB (some b)) : E (tAndV ta tb) σ G W rB (some (a && b)) := by
  have h := e_andV h1 h2
  cases a <;> exact h
theorem e_orP {a b : Bool} (h1 : E ta σ G W rB (some a)) (h2 : E tb σ G W rB (some b)) : E (tOrV ta tb) σ G W rB (some (a || b)) := by
  have h := e_orV h1 h2
  cases a <;> exact h
theorem et_andP {a b : Bool} (h1 : ET t σ W (some a)) (h2 : ET u σ W (some b)) : ET (tAnd t u) σ W (some (a && b)) := by
  have h := et_and h1 h2
  cases a <;> exact h
theorem et_orP {a b : Bool} (h1 : ET t σ W (some a)) (h2 : ET u σ W (some b)) : ET (tOr t u) σ W (some (a || b)) := by
  have h := et_or h1 h2
  cases a <;> exact h
/-- an option's value where it is one -/
theorem e_some {m : Option α} (h : E te σ G W R m) : E te σ G W (rO R) (m >>= fun x => some (some x)) := fun z hz H e e' Q q => by
  obtain ⟨x, hx, hz⟩ := bindS hz
  cases hz
  exact h x hx H e e' Q q
theorem e_none : E (tC .non) σ G W (rO R) (some none) := e_c rfl
theorem e_get {m : Option (Option α)} (h : E te σ G W (rO R) m) : E te σ G W R (m >>= fun x => x) := fun z hz H e e' Q q => by
  obtain ⟨x, hx, hz⟩ := bindS hz
  subst hz
  exact h _ hx H e e' Q q
/-- items of one kind -/
def EAL (n : Nat) (ta : TA) (σ : L2.St) (G W : Hp) (R : Rep α) (m : Option (List α)) : Prop :=
  ∀ xs, m = some xs → xs.length = n ∧ ∀ H, Ex G H → Ex W H → ∀ Q : List V → Hp → Prop, (∀ vs H2 G2, Up G H G2 H2 → Paired (R.r G2) vs xs → Q vs H2) → ta σ H Q
theorem EAL.mono {n : Nat} {G' W' : Hp} {ta : TA} {m : Option (List α)} (e : Ex G G') (e' : Ex W W') (h : EAL n ta σ G W R m) : EAL n ta σ G' W' R m := fun x hx => ⟨(h x hx).1, fun H e1 e2 Q q =>
  (h x hx).2 H (e.trans e1) (e'.trans e2) Q fun v H2 G2 up r => by
    obtain ⟨G3, u3, e3⟩ := up.lift e e1
    exact q v H2 G3 u3 (Paired.mapP r fun _ _ => R.mono e3)⟩
theorem eal_nil : EAL 0 tNil σ G W R (some []) := fun x hx => by
  cases hx
  exact ⟨rfl, fun H e e' Q q => q [] H G (Up.refl e) .nil⟩
theorem eal_cons {n : Nat} {tr : TA} {ma : Option α} {mr : Option (List α)} (h : E ta σ G W R ma) (hr : EAL n tr σ G W R mr) : EAL (n + 1) (tCons ta tr) σ G W R (ma >>= fun x => mr >>= fun xs => some (x :: xs)) := fun z hz => by
  obtain ⟨x, hx, hz⟩ := bindS hz
  obtain ⟨xs, hxs, hz⟩ := bindS hz
  cases hz
  refine ⟨congrArg (· + 1) (hr xs hxs).1, fun H e e' Q q => ?_⟩
  refine h x hx H e e' _ fun v H1 G1 u1 r1 => ?_
  refine ((hr.mono u1.gg (e'.trans u1.hh)) xs hxs).2 H1 u1.gh (Ex.refl _) _ fun vs H2 G2 u2 r2 => ?_
  exact q (v :: vs) H2 G2 (u1.trans u2) (.cons (R.mono u2.gg r1) r2)
theorem el_disp {n : Nat} {ta : TA} {m : Option (List α)} (h : EAL n ta σ G W R m) (hn : n < 100000 := by decide) : EL (tLst ta) σ G W R m := fun z hz H e e' Q q => by
  refine (h z hz).2 H e e' _ fun vs H1 G1 u1 r1 => ?_
  refine ⟨sz_of (by rw [r1.length, (h z hz).1]; exact Nat.le_of_lt hn), fun p hp => q p _ G1 (fresh_back u1.hh hp) (u1.trans (up_new u1.gh hp)) (wd_new u1.gh hp r1)⟩
theorem e_tupH {n : Nat} {ta : TA} {m : Option (List α)} (h : EAL n ta σ G W R m) (hn : n < 100000 := by decide) : E (tTup ta) σ G W (rT R) m := fun z hz H e e' Q q => by
  refine (h z hz).2 H e e' _ fun vs H1 G1 u1 r1 => ?_
  refine ⟨sz_of (by rw [r1.length, (h z hz).1]; exact Nat.le_of_lt hn), fun p hp => q _ _ _ (u1.trans (Up.lay u1.gh hp)) ⟨p, vs, rfl, upd_same, Paired.mapP r1 fun _ _ => R.mono (Ex.new (fresh_back u1.gh hp))⟩⟩
/-! ### cuts, tests opened -/
theorem o_cut (M : L2.St → Hp → Prop) (h : tSeq tu (fun _ => M) D σ H) (k : ∀ σ' H', M σ' H' → tz D σ' H') : Evl.tCut tu tz D σ H := ⟨M, h, k⟩
theorem o_if (h : t σ H fun b H1 => if b = true then tu { D with nx := tz D } σ H1 else tv { D with nx := tz D } σ H1) : tSeq (tIfS t tu tv) tz D σ H := h
theorem ite_b {b : Bool} {A B : Prop} (h1 : b = true → A) (h2 : b = false → B) : if b = true then A else B := by
  cases b with
  | true => exact h1 rfl
  | false => exact h2 rfl
theorem c_pf {f : ι → Option γ} {vs : List V} {i : ι} {z : γ} {Q : VK} {X : XK} (w : Wo G0 H0 ls G H cs) (hv : A.r G vs i) (hz : f i = some z)
    (k : ∀ u H2 G2, Wo G0 H0 ls G2 H2 cs → Ex G G2 → T.r G2 u z → Q u H2) : PF A T f vs H Q X := ⟨G, i, z, w.ex, hv, hz, fun u H2 G2 up r => k u H2 G2 (w.up up) up.gg r⟩
theorem c_pl {f : ι → Option (List γ)} {vs : List V} {i : ι} {z : List γ} {Q : VK} {X : XK} (w : Wo G0 H0 ls G H cs) (hv : A.r G vs i) (hz : f i = some z)
    (k : ∀ p H2 G2, H0 p = none → Wo G0 H0 ls G2 H2 ((p, cL T z) :: cs) → Ex G G2 → Q (.ref p) H2) : PL A T f vs H Q X := ⟨G, i, z, w.ex, hv, hz, fun p H2 G2 hp up w2 => k p H2 G2 (by
    cases q : H0 p with
    | none => rfl
    | some o => exact absurd hp (w.f.st p (by rw [q]; simp))) (w.newL hp up w2) up.gg⟩
theorem o_forR {ta : TA} (h : ta σ H fun vs H1 => ∃ j : Int, vs = [.int j] ∧ -(2 ^ 62) ≤ j ∧ j < 2 ^ 62 ∧ (fun (J : It) (H1 : Hp) => ∃ W : Nat → Nat → L2.St → Hp → Prop, (∃ m, W 0 m σ H1) ∧ ∀ i m σ H, W i m σ H →
      (J.stop i H ∧ tz D σ H) ∨ (J.go i H ∧ ∃ N : L2.St → Hp → Prop, (∀ σ' H', N σ' H' → ∃ m', m' < m ∧ W (i + 1) m' σ' H') ∧ ∀ x H', J.yld i H x H' → g x σ H' fun σ2 H2 => tu { D with nx := N, ct := N, bk := tz D } σ2 H2)) (Itr 0 j.toNat) H1) : tSeq (tFor (iRng1 ta) g tu) tz D σ H := h
/-- for i in range(n), n reckoned -/
theorem v_forR {n : Int} {xs : List Int} (w : Wo G0 H0 ls G H cs) (hx : rngM 0 n = some xs) (P : Nat → Hp → Hp → L2.St → Prop)
    (h0 : P 0 G H σ)
    (hs : ∀ i x σ' G' H', xs[i]? = some x → P i G' H' σ' → g (.int x) σ' H' fun σ2 H2 => tu { D with nx := fun σ' H' => ∃ G', P (i + 1) G' H' σ', ct := fun σ' H' => ∃ G', P (i + 1) G' H' σ', bk := tz D } σ2 H2)
    (hd : ∀ σ' G' H', P xs.length G' H' σ' → tz D σ' H') : ∃ j : Int, [V.int n] = [.int j] ∧ -(2 ^ 62) ≤ j ∧ j < 2 ^ 62 ∧ (fun (J : It) (H1 : Hp) => ∃ W : Nat → Nat → L2.St → Hp → Prop, (∃ m, W 0 m σ H1) ∧ ∀ i m σ H, W i m σ H →
      (J.stop i H ∧ tz D σ H) ∨ (J.go i H ∧ ∃ N : L2.St → Hp → Prop, (∀ σ' H', N σ' H' → ∃ m', m' < m ∧ W (i + 1) m' σ' H') ∧ ∀ x H', J.yld i H x H' → g x σ H' fun σ2 H2 => tu { D with nx := N, ct := N, bk := tz D } σ2 H2)) (Itr 0 j.toNat) H := by
  unfold rngM at hx
  split at hx
  · rename_i hb
    cases hx
    refine ⟨n, rfl, by omega, by omega, for_range (lo := 0) (n := n.toNat) (D := { D with nx := tz D }) (fun i σ' H' => ∃ G', P i G' H' σ') ⟨G, h0⟩ ?_ ?_⟩
    · rintro i σ' H' hi ⟨G', p⟩
      exact hs i _ σ' G' H' (rng_get (by omega)) p
    · rintro σ' H' ⟨G', p⟩
      refine hd σ' G' H' ?_
      rw [rng_len]
      have : (n - 0).toNat = n.toNat := by omega
      rw [this]; exact p
  · cases hx
end
end Sim

namespace Sim
open PySem L2 Evl
section
variable {K : PySem.W.Frag} {σ : L2.St} {G0 H0 G H G2 H2 W : Hp} {ls : List Addr} {cs : Cs} {l : Addr} {cp cp' : CP} {ta tb te tc : TE} {t u : TT} {α β γ ι κ : Type} {R : Rep α} {S : Rep β} {T : Rep γ} {A : AR ι} {D : Ends} {tu tv tz : TS} {g : TG}
theorem scO (h : R.Sc) : (rO R).Sc := fun {H H' v x} q => by
  cases x with
  | none => exact q
  | some y => exact h q
theorem cl_sc {xs : List α} (h : R.Sc) {o : HO} (q : (cL R xs).p G o) : (cL R xs).p G2 o := by
  obtain ⟨vs, e, p⟩ := q
  exact ⟨vs, e, Paired.mapP p fun _ _ r => h r⟩
theorem EL.s {m : Option (List α)} (sc : R.Sc) (h : EL te σ W W R m) : EL te σ G W R m := fun xs hx H e e' Q q => h xs hx H e' e' Q fun p H2 G2 hp u w => by
  obtain ⟨h1, o, h2, h3⟩ := w.head
  exact q p H2 G hp (Up.same e u.hh) ⟨e.trans u.hh, fun c hc => by
    rw [List.mem_singleton.mp hc]
    exact ⟨fresh_back e hp, o, h2, cl_sc sc h3⟩, List.nodup_cons.mpr ⟨List.not_mem_nil, List.nodup_nil⟩⟩
theorem e_neg {m : Option Int} (h : E te σ G W rI m) : E (tUn (L2.rU fun i => .int (-i)) te) σ G W rI (m >>= fun x => some (-x)) := fun z hz H e e' Q q => by
  obtain ⟨x, hx, hz⟩ := bindS hz
  cases hz
  exact h x hx H e e' _ fun v H1 G1 u r => ⟨x, r, q _ H1 G1 u rfl⟩
/-- the cells in another order -/
theorem Wo.perm (w : Wo G0 H0 ls G H cs) (p : List Nat) (hp : p.Nodup) (hl : ∀ i ∈ p, i < cs.length) : Wo G0 H0 ls G H (p.filterMap fun i => cs[i]?) := by
  have hm : ∀ c ∈ p.filterMap (fun i => cs[i]?), c ∈ cs := fun c hc => by
    obtain ⟨i, _, e⟩ := List.mem_filterMap.mp hc
    exact List.mem_of_getElem? e
  refine ⟨⟨w.ex, fun c hc => w.w.at_ c (hm c hc), ?_⟩, w.f, fun c hc => w.lo c (hm c hc)⟩
  clear hm
  induction p with
  | nil => exact List.nodup_nil
  | cons i p ih =>
    have hi : i < cs.length := hl i (List.mem_cons_self ..)
    rw [List.filterMap_cons, List.getElem?_eq_getElem hi]
    refine List.nodup_cons.mpr ⟨fun h => ?_, ih (List.nodup_cons.mp hp).2 fun j hj => hl j (List.mem_cons_of_mem _ hj)⟩
    obtain ⟨c, hc, e⟩ := List.mem_map.mp h
    obtain ⟨j, hj, ej⟩ := List.mem_filterMap.mp hc
    have h1 : (cs.map (·.1))[i]? = some cs[i].1 := by rw [List.getElem?_map, List.getElem?_eq_getElem hi]; rfl
    have h2 : (cs.map (·.1))[j]? = some cs[i].1 := by rw [List.getElem?_map, ej]; exact congrArg some e
    have := nodup_ix w.w.nd h1 h2
    subst this
    exact (List.nodup_cons.mp hp).1 hj
theorem Wo.sub2 {i j : Nat} {l' : Addr} (w : Wo G0 H0 ls G H cs) (h : cs[i]? = some (l, cp)) (h' : cs[j]? = some (l', cp')) (ne : i ≠ j) : Wd G H [(l, cp), (l', cp')] := ⟨w.ex, fun c hc => by
  rcases List.mem_cons.mp hc with hc | hc
  · subst hc; exact w.w.at_ _ (List.mem_of_getElem? h)
  · rw [List.mem_singleton.mp hc]; exact w.w.at_ _ (List.mem_of_getElem? h'), by
  refine List.nodup_cons.mpr ⟨fun z => ?_, List.nodup_cons.mpr ⟨List.not_mem_nil, List.nodup_nil⟩⟩
  have e : l = l' := List.mem_singleton.mp z
  have h1 : (cs.map (·.1))[i]? = some l := by rw [List.getElem?_map, h]; rfl
  have h2 : (cs.map (·.1))[j]? = some l := by rw [List.getElem?_map, h', e]; rfl
  exact ne (nodup_ix w.w.nd h1 h2)⟩
theorem x_forT {xs : List α} {tl : TE} {m : Option (List α)} (w : Wo G0 H0 ls G H cs) (h : E tl σ G H (rT R) m) (hm : m = some xs) (P : Nat → Hp → Hp → L2.St → Prop) (hP : ∀ i G' H' σ', P i G' H' σ' → Ex G' H')
    (h0 : ∀ G' H', Wo G0 H0 ls G' H' cs → Ex G G' → P 0 G' H' σ)
    (hs : ∀ G1, Ex G G1 → ∀ i x v σ' G' H', xs[i]? = some x → Ex G1 G' → P i G' H' σ' → R.r G' v x → g v σ' H' fun σ2 H2 => tu { D with nx := fun σ' H' => ∃ G', Ex G1 G' ∧ P (i + 1) G' H' σ', ct := fun σ' H' => ∃ G', Ex G1 G' ∧ P (i + 1) G' H' σ', bk := tz D } σ2 H2)
    (hd : ∀ σ' G' H', Ex G G' → P xs.length G' H' σ' → tz D σ' H') : tSeq (tFor (iTup K tl) g tu) tz D σ H :=
  h xs hm H w.ex (Ex.refl _) _ fun v H1 G1 u r => by
    obtain ⟨a, vs, rfl, h2, h3⟩ := r
    refine ⟨a, rfl, ⟨vs, Or.inl (Or.inl (u.gh a _ h2))⟩, for_tup (K := K) (a := a) (xs := vs) (fun i σ' H' => ∃ G', Ex G1 G' ∧ P i G' H' σ') ⟨G1, Ex.refl _, h0 G1 H1 (w.up u) u.gg⟩ ?_ ?_ ?_⟩
    · rintro i σ' H' _ ⟨G', e, p⟩
      exact Or.inl (Or.inl (hP _ _ _ _ p a _ (e a _ h2)))
    · rintro i y σ' H' hy ⟨G', e, p⟩
      obtain ⟨x, hx, r⟩ := pr_get' h3 hy
      exact hs G1 u.gg i x y σ' G' H' hx e p (R.mono e r)
    · rintro σ' H' ⟨G', e, p⟩
      rw [h3.length] at p
      exact hd σ' G' H' (u.gg.trans e) p
end
/-! ### the text's facts -/
structure Tx (fa : List He.Fa) (fn : List He.DefD) (K : PySem.W.Frag) (mg : Str → Option Value) : Prop where
  ex : ∃ h : Heap, K.In h ∧ h.Ns mainGlobals mg
  c : He.SaysD fa fn K
section
variable {fa : List He.Fa} {fn : List He.DefD} {K : PySem.W.Frag} {mg : Str → Option Value} {P : Program} {w : World} {base : Heap}
theorem Tx.glo (T : Tx fa fn K mg) (i : Nat) {x : Str} (h : fa[i]? = some (.glo x)) : mg x = some (.ref (He.ga K x)) := by
  obtain ⟨h', X, G⟩ := T.ex
  exact He.glo_ok X G (T.c.fact i h)
theorem Tx.free (T : Tx fa fn K mg) (i : Nat) {x : Str} (h : fa[i]? = some (.free x)) : mg x = none := by
  obtain ⟨h', X, G⟩ := T.ex
  exact He.free_ok X G (T.c.fact i h)
theorem Tx.cls (T : Tx fa fn K mg) (i : Nat) {x : Str} (h : fa[i]? = some (.cls x)) : Cls K (He.ga K x) := He.cls_ok (T.c.fact i h)
theorem Tx.noat (T : Tx fa fn K mg) (i : Nat) {x f : Str} (h : fa[i]? = some (.noat x f)) : NoAttr K (He.ga K x) f := He.noat_ok (T.c.fact i h)
theorem Tx.meth (T : Tx fa fn K mg) (i : Nat) {x m : Str} (h : fa[i]? = some (.meth x m)) : Meth K (He.ga K x) m (He.ma K (He.ga K x) m) := He.meth_ok (T.c.fact i h)
theorem Tx.mkr (T : Tx fa fn K mg) (i : Nat) {x : Str} (h : fa[i]? = some (.mkr x)) : Mk K (He.ga K x) (He.ma K (He.ga K x) "__init__") := He.mkr_ok (T.c.fact i h)
theorem Tx.def_ (T : Tx fa fn K mg) (i : Nat) {d : He.DefD} (h : fn[i]? = some d) : ∃ fd, FunD K d.name d.qual d.params d.body d.scope (d.dvs K) (d.kws K) (He.fAd K d.at_) fd := T.c.def_ i h
/-- a def by its name, with its promise -/
def Fk (P : Program) (w : World) (K : PySem.W.Frag) (mg : Str → Option Value) (base : Heap) (CX : CXT) (k : Nat) (x : Str) (ps : List Str) (sp : Sp) : Prop :=
  ∃ fd, FnOk P w K mg base CX k (He.ga K x) fd ps sp ∧ Binds K fd ps [] ∧ PySem.W.keepIn K (.ref (He.ga K x)) = true ∧ mg x = some (.ref (He.ga K x))
theorem fk_mk {CX : CXT} {k : Nat} {x qual : Str} {ps : List Str} {sp : Sp} {fd : FuncData} {params : Arguments} {body : List Stmt} {scope : Scope} (T : Tx fa fn K mg) (g : mg x = some (.ref (He.ga K x))) (F : FunD K x qual params body scope [] [] (He.ga K x) fd)
    (hb : ∀ (kV doc pm : Value) (an : Option Addr) (cdv ct : Value) (us : List Value), us.length = ps.length → bindArgs (PySem.W.fnOf x qual params body scope .none kV doc pm an cdv ct) ⟨us, []⟩ = pure (ps.zip us))
    (h : FnOk P w K mg base CX k (He.ga K x) fd ps sp) : Fk P w K mg base CX k x ps sp := ⟨fd, h, F.bindsN hb, F.kp, g⟩
end
end Sim

namespace Sim
open PySem L2 Evl
/-! ### the hook: facts, defs, and further Bools -/
abbrev AlE : Type := He.AlD × Bool
def obsE (fa : List He.Fa) (fn : List He.DefD) (ex : List (PySem.W.Frag → Bool)) (K : PySem.W.Frag) : AlE := (He.obsD fa fn K, ex.all fun e => e K)
def obsEG (n : Nat) (fa : List He.Fa) (fn : List He.DefD) (ex : List (PySem.W.Frag → Bool)) (g : Addr → Option Obj) : AlE := obsE fa fn ex (He.frG g (He.asD g n))
structure SaysE (fa : List He.Fa) (fn : List He.DefD) (ex : List (PySem.W.Frag → Bool)) (K : PySem.W.Frag) : Prop where
  d : He.SaysD fa fn K
  x : (ex.all fun e => e K) = true
def hookE (n : Nat) (fa : List He.Fa) (fn : List He.DefD) (ex : List (PySem.W.Frag → Bool)) : PySem.W.Hook where
  α := AlE
  obs := fun s => obsEG n fa fn ex s.heap.get?
  val := fun _ => (He.valD fn, true)
  says := fun _ h => ∃ K : PySem.W.Frag, K.In h ∧ SaysE fa fn ex K
  of := fun _ _ e => ⟨_, He.frG_in, congrArg (fun z : AlE => z.1) e, congrArg (fun z : AlE => z.2) e⟩
  keeps := fun _ _ _ ⟨K, hK, c⟩ k => ⟨K, PySem.W.Frag.In.keeps hK k, c⟩
theorem obsEG_eq {n : Nat} {fa : List He.Fa} {fn : List He.DefD} {ex : List (PySem.W.Frag → Bool)} {g : Addr → Option Obj} {s : Shared} (h : ∀ a, g a = s.heap.get? a) : obsEG n fa fn ex g = (hookE n fa fn ex).obs s := by
  have e : g = s.heap.get? := funext h
  rw [e] <;> rfl
structure TxE (fa : List He.Fa) (fn : List He.DefD) (es : List (PySem.W.Frag → Bool)) (K : PySem.W.Frag) (mg : Str → Option Value) : Prop extends Tx fa fn K mg where
  x : (es.all fun e => e K) = true
theorem TxE.mo {fa : List He.Fa} {fn : List He.DefD} {ex : List (PySem.W.Frag → Bool)} {K : PySem.W.Frag} {mg : Str → Option Value} (T : TxE fa fn ex K mg) (i : Nat) {e : PySem.W.Frag → Bool} (h : ex[i]? = some e) : e K = true := List.all_eq_true.mp T.x e (List.mem_of_getElem? h)
theorem TxE.con {fa : List He.Fa} {fn : List He.DefD} {ex : List (PySem.W.Frag → Bool)} {K : PySem.W.Frag} {mg : Str → Option Value} (T : TxE fa fn ex K mg) (i : Nat) {C f : Str} {v : He.Dv} (h : ex[i]? = some fun K => He.conB K C f v) (hc : PySem.W.copiedNames.contains f = false := by decide) : ∃ u, Con K (He.ga K C) f (v.v K) u := He.conB_ok (T.mo i h) hc
/-! ### objects -/
structure Pd where
  p : Hp → V → Prop
  mono : ∀ {H H' : Hp} {v : V}, Ex H H' → p H v → p H' v
def pd {α : Type} (R : Rep α) (x : α) : Pd := ⟨fun H v => R.r H v x, fun e h => R.mono e h⟩
def Fl (ns : List Str) (ps : List Pd) (H : Hp) (fs : List (Str × V)) : Prop := fs.map (·.1) = ns ∧ Paired (fun v (q : Pd) => q.p H v) (fs.map (·.2)) ps
theorem Fl.mono {ns : List Str} {ps : List Pd} {H H' : Hp} {fs : List (Str × V)} (e : Ex H H') (h : Fl ns ps H fs) : Fl ns ps H' fs := ⟨h.1, Paired.mapP h.2 fun _ q => q.mono e⟩
def rObj {α : Type} (C : Addr) (ns : List Str) (fl : α → List Pd) : Rep α := ⟨fun H v x => ∃ a dx fs, v = .ref a ∧ H a = some (.ins C dx fs) ∧ Fl ns (fl x) H fs, fun e ⟨a, dx, fs, h1, h2, h3⟩ => ⟨a, dx, fs, h1, e a _ h2, h3.mono e⟩⟩
def cI (C : Addr) (ns : List Str) (ps : List Pd) : CP := ⟨fun G o => ∃ dx fs, o = .ins C dx fs ∧ Fl ns ps G fs, fun e ⟨dx, fs, h1, h2⟩ => ⟨dx, fs, h1, h2.mono e⟩⟩
theorem look_at {ns : List Str} : ∀ {fs : List (Str × V)} {f : Str} {i : Nat} {v : V}, fs.map (·.1) = ns → (ns.findIdx? (fun x => x == f)) = some i → (fs.map (·.2))[i]? = some v → fs.lookup f = some v := by
  intro fs
  induction fs generalizing ns with
  | nil => intro f i v h1 h2 h3; simp at h3
  | cons q fs ih =>
    intro f i v h1 h2 h3
    obtain ⟨n, w⟩ := q
    subst h1
    rw [List.map_cons, List.findIdx?_cons] at h2
    rw [List.lookup_cons]
    by_cases hn : (n == f) = true
    · rw [if_pos hn] at h2
      cases h2
      have hf : (f == n) = true := by rw [beq_iff_eq] at hn ⊢; exact hn.symm
      rw [hf]
      simpa using h3
    · rw [if_neg hn] at h2
      obtain ⟨j, hj, e⟩ := Option.map_eq_some_iff.mp h2
      subst e
      have hf : (f == n) = false := by
        cases q : (f == n) with
        | false => rfl
        | true => rw [beq_iff_eq] at q; exact absurd (by rw [beq_iff_eq]; exact q.symm) hn
      rw [hf]
      exact ih rfl hj (by simpa using h3)
theorem look_no {ns : List Str} : ∀ {fs : List (Str × V)} {f : Str}, fs.map (·.1) = ns → ns.contains f = false → fs.lookup f = none := by
  intro fs
  induction fs generalizing ns with
  | nil => intro f _ _; rfl
  | cons q fs ih =>
    intro f h1 h2
    obtain ⟨n, w⟩ := q
    subst h1
    rw [List.map_cons, List.contains_cons, Bool.or_eq_false_iff] at h2
    rw [List.lookup_cons, h2.1]
    exact ih rfl h2.2
theorem putF_new {f : Str} {v : V} : ∀ {fs : List (Str × V)}, (fs.map (·.1)).contains f = false → putF f v fs = fs ++ [(f, v)]
  | [], _ => rfl
  | (n, w) :: fs, h => by
    rw [List.map_cons, List.contains_cons, Bool.or_eq_false_iff] at h
    have hn : ¬ (n = f) := fun e => by subst e; simp at h
    unfold putF
    rw [if_neg hn, putF_new h.2]; rfl
section
variable {K : PySem.W.Frag} {σ : L2.St} {G0 H0 G H G2 H2 W : Hp} {ls : List Addr} {cs : Cs} {l C : Addr} {cp cp' : CP} {ta tb te tc to : TE} {t u : TT} {α β γ ι κ : Type} {R : Rep α} {S : Rep β} {T : Rep γ} {A : AR ι} {D : Ends} {tu tv tz : TS} {g : TG} {ns : List Str} {fl : α → List Pd}
theorem nnO_ : (rObj C ns fl).NN := fun ⟨a, _, _, h, _⟩ => by rw [h]; simp
/-- o.f -/
theorem e_fld {m : Option α} {f : Str} (i : Nat) (p : α → β) (h : E to σ G W (rObj C ns fl) m) (hc : Cls K C) (hn : NoAttr K C f) (hi : ns.findIdx? (fun x => x == f) = some i) (hp : ∀ x, (fl x)[i]? = some (pd S (p x))) : E (tFld K to f) σ G W S (m >>= fun x => some (p x)) := fun z hz H e e' Q q => by
  obtain ⟨x, hx, hz⟩ := bindS hz
  cases hz
  refine h x hx H e e' _ fun v H1 G1 u r => ?_
  obtain ⟨a, dx, fs, rfl, h2, h3⟩ := r
  obtain ⟨w, hw, r2⟩ := pr_get h3.2 (hp x)
  exact ⟨a, C, dx, fs, w, rfl, u.gh a _ h2, hc, hn, look_at h3.1 hi hw, q w H1 G1 u r2⟩
/-- o.NAME, of the class -/
theorem e_con {m : Option α} {f : Str} {v : V} {uu : Value} {x : β} (h : E to σ G W (rObj C ns fl) m) (hc : Cls K C) (hk : Con K C f v uu) (hi : ns.contains f = false) (hv : ∀ H, S.r H v x) : E (tCon K to f) σ G W S (m >>= fun _ => some x) := fun z hz H e e' Q q => by
  obtain ⟨y, hy, hz⟩ := bindS hz
  cases hz
  refine h y hy H e e' _ fun v H1 G1 u r => ?_
  obtain ⟨a, dx, fs, rfl, h2, h3⟩ := r
  exact ⟨a, C, dx, fs, _, uu, rfl, u.gh a _ h2, hc, hk, look_no h3.1 hi, q _ H1 G1 u (hv G1)⟩
/-- o.m(..) -/
theorem e_meth {m : Option α} {mi : Option ι} {me : Str} {f : α × ι → Option γ} {ta : TA} {X : XK} (h : E to σ G W (rObj C ns fl) m) (ha : EA ta σ G W A mi) (hi : ns.contains me = false) : E (tMeth C me (PF (aC (rObj C ns fl) A) T f) [] X to ta) σ G W T (m >>= fun o => mi >>= fun i => f (o, i)) := fun z hz H e e' Q q => by
  obtain ⟨x, hx, hz⟩ := bindS hz
  obtain ⟨y, hy, hz⟩ := bindS hz
  refine h x hx H e e' _ fun v H1 G1 u r => ?_
  obtain ⟨a, dx, fs, rfl, h2, h3⟩ := r
  refine ⟨a, dx, fs, rfl, u.gh a _ h2, look_no h3.1 hi, ?_⟩
  refine (ha.mono u.gg (e'.trans u.hh)) y hy H1 u.gh (Ex.refl _) _ fun vs H3 G3 u3 r3 => ?_
  rw [List.append_nil]
  exact ⟨G3, (x, y), z, u3.gh, ⟨.ref a, vs, rfl, ⟨a, dx, fs, rfl, u3.gg a _ h2, h3.mono u3.gg⟩, r3⟩, hz, fun v H4 G4 u4 r4 => q v H4 G4 ((u.trans u3).trans u4) r4⟩
theorem el_meth {m : Option α} {mi : Option ι} {me : Str} {f : α × ι → Option (List γ)} {ta : TA} {X : XK} (h : E to σ G W (rObj C ns fl) m) (ha : EA ta σ G W A mi) (hi : ns.contains me = false) : EL (tMeth C me (PL (aC (rObj C ns fl) A) T f) [] X to ta) σ G W T (m >>= fun o => mi >>= fun i => f (o, i)) := fun z hz H e e' Q q => by
  obtain ⟨x, hx, hz⟩ := bindS hz
  obtain ⟨y, hy, hz⟩ := bindS hz
  refine h x hx H e e' _ fun v H1 G1 u r => ?_
  obtain ⟨a, dx, fs, rfl, h2, h3⟩ := r
  refine ⟨a, dx, fs, rfl, u.gh a _ h2, look_no h3.1 hi, ?_⟩
  refine (ha.mono u.gg (e'.trans u.hh)) y hy H1 u.gh (Ex.refl _) _ fun vs H3 G3 u3 r3 => ?_
  rw [List.append_nil]
  exact ⟨G3, (x, y), z, u3.gh, ⟨.ref a, vs, rfl, ⟨a, dx, fs, rfl, u3.gg a _ h2, h3.mono u3.gg⟩, r3⟩, hz, fun p H4 G4 hp u4 r4 => q p H4 G4 (fresh_back (u.hh.trans u3.hh) hp) ((u.trans u3).trans u4) r4⟩
/-- the promise of an __init__: fields of the new object -/
def PI {ι α : Type} (C : Addr) (A : AR ι) (ns : List Str) (fl : α → List Pd) (f : ι → Option α) : Sp := fun vs H Q _ => ∃ G x ws i o, vs = .ref x :: ws ∧ Wd G H [(x, cI C [] [])] ∧ A.r G ws i ∧ f i = some o ∧
  ∀ H2 G2, Fr G H G2 H2 [x] → Wd G2 H2 [(x, cI C ns (fl o))] → Q .non H2
theorem ob_freeze {p : Addr} {ps : List Pd} (w : Wd G H [(p, cI C ns ps)]) : ∃ G2, Ex G G2 ∧ Ex G2 H ∧ (∀ a, a ≠ p → G a = none → G2 a = none) ∧ ∃ dx fs, G2 p = some (.ins C dx fs) ∧ Fl ns ps G2 fs := by
  obtain ⟨h1, o, h2, dx, fs, rfl, h3⟩ := w.head
  refine ⟨upd G p (.ins C dx fs), Ex.new h1, fun a u' e => ?_, fun a ne h => by rw [upd_ne ne]; exact h, dx, fs, upd_same, h3.mono (Ex.new h1)⟩
  by_cases q : a = p
  · subst q; rw [upd_same] at e; cases e; exact h2
  · rw [upd_ne q] at e; exact w.ex a u' e
theorem new_ins {x dx : Addr} (e : Ex G H) (nx : H x = none) (ndx : H dx = none) (ne : dx ≠ x) : Wd G (upd (upd H dx (.own x)) x (.ins C dx [])) [(x, cI C [] [])] := by
  have nx' : (upd H dx (.own x)) x = none := by rw [upd_ne ne.symm]; exact nx
  have e1 : Ex G (upd H dx (.own x)) := e.trans (Ex.new ndx)
  exact (Wd.nil e1).new nx' ⟨dx, [], rfl, rfl, .nil⟩
/-- C(..) -/
theorem e_make {f : ι → Option α} {ta : TA} {mi : Option ι} {X : XK} (ha : EA ta σ G W A mi) : E (tMake C (PI C A ns fl f) [] X ta) σ G W (rObj C ns fl) (mi >>= f) := fun z hz H e e' Q q => by
  obtain ⟨i, hi, hz⟩ := bindS hz
  refine ha i hi H e e' _ fun vs H1 G1 u1 r1 => ?_
  intro x dx nx ndx ne
  rw [List.append_nil]
  have w1 : Wd G1 (upd (upd H1 dx (.own x)) x (.ins C dx [])) [(x, cI C [] [])] := new_ins u1.gh nx ndx ne
  refine ⟨G1, x, vs, i, z, rfl, w1, r1, hz, fun H2 G2 fr w2 => ⟨rfl, ?_⟩⟩
  obtain ⟨G3, k1, k2, k3, dx', fs, k4, k5⟩ := ob_freeze w2
  have hh : Ex H1 H2 := fun a o h => by
    have na : a ≠ x := ne_of_none h nx
    have nd : a ≠ dx := ne_of_none h ndx
    exact fr.fr a o (by rw [upd_ne na, upd_ne nd]; exact h) fun z => na (List.mem_singleton.mp z)
  have up : Up G1 H1 G3 H2 := ⟨fr.gg.trans k1, k2, hh, fun a h1 h2 => by
    have na : a ≠ x := fun z => by subst z; exact h1 nx
    have nd : a ≠ dx := fun z => by subst z; exact h1 ndx
    exact k3 a na (fr.nw a (by rw [upd_ne na, upd_ne nd]; exact h1) h2)⟩
  exact q _ H2 G3 (u1.trans up) ⟨x, dx', fs, rfl, k4, k5⟩
/-- self.f = e, a new field -/
theorem x_fldN {i j : Nat} {f : Str} {m : Option β} {x : β} {ps : List Pd} (w : Wo G0 H0 ls G H cs) (hc : cs[j]? = some (l, cI C ns ps)) (hi : σ[i]? = some (some (.ref l))) (h : E te σ G H S m) (hm : m = some x) (hC : Cls K C) (hn : NoAttr K C f) (hz : ns.contains f = false) (hs : ns.length < 1000)
    (k : ∀ H2 G2, Wo G0 H0 ls G2 H2 (cs.set j (l, cI C (ns ++ [f]) (ps ++ [pd S x]))) → Ex G G2 → tz D σ H2) : tSeq (sFld K (tVar i) te f) tz D σ H :=
  h x hm H w.ex (Ex.refl _) (fun y H1 => tVar i σ H1 fun x H2 => ∃ a C dx fs, x = .ref a ∧ H2 a = some (.ins C dx fs) ∧ Cls K C ∧ NoAttr K C f ∧ fs.length < 1000 ∧ tz D σ (upd H2 a (.ins C dx (putF f y fs)))) fun v H3 G3 u r => by
    have w3 := w.up u
    obtain ⟨_, o3, k2, dx, fs, rfl, k3⟩ := w3.w.getAt hc
    refine ⟨.ref l, hi, l, C, dx, fs, rfl, k2, hC, hn, by rw [← List.length_map (f := (·.1)), k3.1]; exact hs, ?_⟩
    rw [putF_new (by rw [k3.1]; exact hz)]
    refine k _ _ (w3.writeAt hc ⟨dx, _, rfl, ?_, ?_⟩) u.gg
    · rw [List.map_append, k3.1]; rfl
    · rw [List.map_append]; exact pr_app k3.2 (.cons r .nil)
theorem o_try {tb : TS} (h : tb { D with nx := tz D } σ H) : tSeq tb tz D σ H := h
theorem x_call {m : Option α} {x : α} (w : Wo G0 H0 ls G H cs) (h : E te σ G H R m) (hm : m = some x) (k : ∀ H2, Wo G0 H0 ls G H2 cs → tz D σ H2) : tSeq (tDrop te) tz D σ H :=
  h x hm H w.ex (Ex.refl _) (fun _ H1 => tz D σ H1) fun v H2 G2 u r => k H2 (w.sc u.hh)
/-! ### isinstance, the kind known -/
def KTy (R : Rep α) (n : String) : Prop := ∀ {K : PySem.W.Frag} {H : Hp} {v : V} {x : α}, R.r H v x → TyX K H v (.type n)
theorem ktI : KTy rI "int" := fun h => by rw [show _ = V.int _ from h]; exact .base (.int _)
theorem ktB : KTy rB "bool" := fun h => by rw [show _ = V.bl _ from h]; exact .base (.bl _)
theorem ktS : KTy rS "str" := fun h => by rw [show _ = V.str _ from h]; exact .base (.str _)
theorem ktL : KTy (rL R) "list" := fun ⟨a, vs, h, h2, _⟩ => by rw [h]; exact .base (.lst h2)
theorem ktT : KTy (rT R) "tuple" := fun ⟨a, vs, h, h2, _⟩ => by rw [h]; exact .base (.tup h2)
theorem ktP : KTy (rP R S) "tuple" := fun ⟨a, _, _, h, h2, _⟩ => by rw [h]; exact .base (.tup h2)
abbrev rIsiE (K : PySem.W.Frag) : List V → Hp → VK → Prop := rIsi K
theorem e_isi {m : Option α} {n c : String} {b : Bool} (h : E te σ G W R m) (hk : KTy R n) (hb : kitB n c = some b) : E (tCB (rIsi K) (tCons te (tCons (tC (.ty c)) tNil))) σ G W rB (m >>= fun _ => some b) := fun z hz H e e' Q q => by
  obtain ⟨x, hx, hz⟩ := bindS hz
  cases hz
  refine h x hx H e e' _ fun v H1 G1 u r => ?_
  exact ⟨v, .ty c, .type n, .type c, b, rfl, .ty c, hk (R.mono u.gh r), kit_ty hb, q _ H1 G1 u rfl⟩
/-! ### == of data -/
def rEqP (K : PySem.W.Frag) : R2 := fun x y H Q => ∃ d e, Dp K H x d ∧ Dp K H y e ∧ (d.plain = true ∧ d.depth ≤ 64) ∧ (e.plain = true ∧ e.depth ≤ 64) ∧ Q (.bl (PyData.eqv d e)) H
def rNeP (K : PySem.W.Frag) : R2 := fun x y H Q => ∃ d e, Dp K H x d ∧ Dp K H y e ∧ (d.plain = true ∧ d.depth ≤ 64) ∧ (e.plain = true ∧ e.depth ≤ 64) ∧ Q (.bl (!PyData.eqv d e)) H
theorem op_eqP {X : Cx} (hu : X.A.units + 64 < cLine) : OpR X (compareOp .Eq) (rEqP X.K) := by
  intro pins s σ H x y v u Q I rx ry h
  obtain ⟨d, e, hd, he, sd, se, q⟩ := h
  obtain ⟨as, r1⟩ := Dp.reads I d x v hd rx
  obtain ⟨bs, r2⟩ := Dp.reads I e y u he ry
  exact SeqAt.eq_plain r1 r2 sd.1 se.1 (by have := sd.2; omega) ⟨.bl _, H, I, rfl, q⟩
theorem op_neP {X : Cx} (hu : X.A.units + 64 < cLine) : OpR X (compareOp .NotEq) (rNeP X.K) := by
  intro pins s σ H x y v u Q I rx ry h
  obtain ⟨d, e, hd, he, sd, se, q⟩ := h
  obtain ⟨as, r1⟩ := Dp.reads I d x v hd rx
  obtain ⟨bs, r2⟩ := Dp.reads I e y u he ry
  exact SeqAt.ne_plain r1 r2 sd.1 se.1 (by have := sd.2; omega) ⟨.bl _, H, I, rfl, q⟩
structure Dt (R : Rep α) (d : α → PyData) (n : Nat) : Prop where
  dp : ∀ {K : PySem.W.Frag} {H : Hp} {v : V} {x : α}, R.r H v x → Dp K H v (d x)
  lay : ∀ x, (d x).plain = true
  dep : ∀ x, (d x).depth ≤ n
  eq : ∀ x y, PyData.eqv (d x) (d y) = true ↔ x = y
theorem dtI : Dt rI PyData.int 0 := ⟨fun h => by rw [show _ = V.int _ from h]; exact .int _, fun _ => rfl, fun _ => Nat.le_refl _, fun x y => by simp [PyData.eqv]⟩
theorem dtB : Dt rB PyData.bool 0 := ⟨fun h => by rw [show _ = V.bl _ from h]; exact .bl _, fun _ => rfl, fun _ => Nat.le_refl _, fun x y => by simp [PyData.eqv]⟩
theorem eqvD {d : α → PyData} {n : Nat} [DecidableEq α] (h : Dt R d n) (x y : α) : PyData.eqv (d x) (d y) = decide (x = y) := by
  by_cases e : x = y
  · rw [decide_eq_true e]; exact (h.eq x y).mpr e
  · rw [decide_eq_false e]
    cases q : PyData.eqv (d x) (d y) with
    | false => rfl
    | true => exact absurd ((h.eq x y).mp q) e
theorem rr_eqD {d : α → PyData} {n : Nat} [DecidableEq α] (h : Dt R d n) (hn : n ≤ 64) : RR (rEqP K) R R rB (fun x y => some (decide (x = y))) := fun v w x y z H G hv hw hz e Q q => by
  cases hz
  exact ⟨d x, d y, h.dp (R.mono e hv), h.dp (R.mono e hw), ⟨h.lay x, Nat.le_trans (h.dep x) hn⟩, ⟨h.lay y, Nat.le_trans (h.dep y) hn⟩, q _ H G (Up.refl e) (congrArg V.bl (eqvD h x y))⟩
theorem rr_neD {d : α → PyData} {n : Nat} [DecidableEq α] (h : Dt R d n) (hn : n ≤ 64) : RR (rNeP K) R R rB (fun x y => some (!decide (x = y))) := fun v w x y z H G hv hw hz e Q q => by
  cases hz
  exact ⟨d x, d y, h.dp (R.mono e hv), h.dp (R.mono e hw), ⟨h.lay x, Nat.le_trans (h.dep x) hn⟩, ⟨h.lay y, Nat.le_trans (h.dep y) hn⟩, q _ H G (Up.refl e) (congrArg (fun b => V.bl (!b)) (eqvD h x y))⟩
end
end Sim

namespace Sim
open PySem L2 Evl
section
variable {K : PySem.W.Frag} {σ : L2.St} {G0 H0 G H G2 H2 W : Hp} {ls : List Addr} {cs : Cs} {l C : Addr} {cp cp' : CP} {ta tb te tc to : TE} {t u : TT} {α β γ ι κ : Type} {R : Rep α} {S : Rep β} {T : Rep γ} {A : AR ι} {D : Ends} {tu tv tz : TS} {g : TG} {ns : List Str} {fl : α → List Pd}
/-! ### a list lent to a def that only reads it -/
/-- at l, its items standing in the data heap, it itself not -/
structure Lent (G W : Hp) (l : Addr) (B : Rep κ) (ys : List κ) : Prop where
  n : G l = none
  at_ : ∃ vs, W l = some (.lst vs) ∧ Paired (B.r G) vs ys
def PB (A : AR ι) (ad : ι → Addr) (B : Rep κ) (R : Rep α) (f : List κ → ι → Option α) : Sp := fun vs H Q _ => ∃ G i ys x, Ex G H ∧ A.r G vs i ∧ Lent G H (ad i) B ys ∧ f ys i = some x ∧ ∀ v H2 G2, Up G H G2 H2 → R.r G2 v x → Q v H2
def PIB (C : Addr) (A : AR ι) (ad : ι → Addr) (B : Rep κ) (ns : List Str) (fl : α → List Pd) (f : List κ → ι → Option α) : Sp := fun vs H Q _ => ∃ G x ws i ys o, vs = .ref x :: ws ∧ Wd G H [(x, cI C [] [])] ∧ A.r G ws i ∧ Lent G H (ad i) B ys ∧ f ys i = some o ∧
  ∀ H2 G2, Fr G H G2 H2 [x] → Wd G2 H2 [(x, cI C ns (fl o))] → Q .non H2
theorem Wo.lent {i : Nat} {B : Rep κ} {ys : List κ} (w : Wo G0 H0 ls G H cs) (h : cs[i]? = some (l, cL B ys)) : Lent G H l B ys := by
  obtain ⟨h1, o, h2, vs, rfl, h3⟩ := w.w.getAt h
  exact ⟨h1, vs, h2, h3⟩
/-- still lent, as the def goes on -/
theorem Wo.lentOf {B : Rep κ} {ys : List κ} (w : Wo G0 H0 ls G H cs) (L : Lent G0 H0 l B ys) (h : l ∉ ls) : Lent G H l B ys := by
  obtain ⟨vs, h2, h3⟩ := L.at_
  exact ⟨w.f.nw _ (by rw [h2]; simp) L.n, vs, w.f.fr _ _ h2 h, Paired.mapP h3 fun _ _ => B.mono w.f.gg⟩
theorem Lent.up {B : Rep κ} {ys : List κ} {G1 H1 H : Hp} (L : Lent G W l B ys) (e' : Ex W H) (u : Up G H G1 H1) : Lent G1 H1 l B ys := by
  obtain ⟨vs, h2, h3⟩ := L.at_
  exact ⟨u.nw _ (by rw [e' _ _ h2]; simp) L.n, vs, u.hh _ _ (e' _ _ h2), Paired.mapP h3 fun _ _ => B.mono u.gg⟩
theorem Lent.rl {B : Rep κ} {ys : List κ} (L : Lent G W l B ys) (e : Ex G W) : (rL B).r W (.ref l) ys := by
  obtain ⟨vs, h2, h3⟩ := L.at_
  exact ⟨l, vs, rfl, h2, Paired.mapP h3 fun _ _ => B.mono e⟩
theorem Lent.ne {B : Rep κ} {ys : List κ} {x : Addr} {ps : List Pd} (L : Lent G H l B ys) (w : Wd G H [(x, cI C ns ps)]) : l ∉ [x] := fun z => by
  obtain ⟨vs, h2, _⟩ := L.at_
  obtain ⟨_, o, k2, dx, fs, rfl, _⟩ := w.head
  rw [List.mem_singleton.mp z, k2] at h2
  cases h2
theorem x_forN {i : Nat} {xs : List α} (w : Wo G0 H0 ls G H cs) (L : Lent G0 H0 l R xs) (hl : l ∉ ls) (hi : σ[i]? = some (some (.ref l))) (P : Nat → Hp → Hp → L2.St → Prop) (hP : ∀ i G' H' σ', P i G' H' σ' → ∃ cs', Wo G0 H0 ls G' H' cs')
    (h0 : P 0 G H σ)
    (hs : ∀ i x v σ' G' H', xs[i]? = some x → P i G' H' σ' → R.r G' v x → g v σ' H' fun σ2 H2 => tu { D with nx := fun σ' H' => ∃ G', P (i + 1) G' H' σ', ct := fun σ' H' => ∃ G', P (i + 1) G' H' σ', bk := tz D } σ2 H2)
    (hd : ∀ σ' G' H', P xs.length G' H' σ' → tz D σ' H') : tSeq (tFor (iList K (tVar i)) g tu) tz D σ H := by
  obtain ⟨vs, h2, h3⟩ := L.at_
  refine ⟨.ref l, hi, l, rfl, ⟨vs, Or.inl (Or.inl (w.f.fr _ _ h2 hl))⟩, for_list (K := K) (a := l) (xs := vs) (D := { D with nx := tz D }) (fun i σ' H' => ∃ G', P i G' H' σ') ⟨G, h0⟩ ?_ ?_ ?_⟩
  · rintro i σ' H' _ ⟨G', p⟩
    obtain ⟨cs', w'⟩ := hP _ _ _ _ p
    exact Or.inl (Or.inl (w'.f.fr _ _ h2 hl))
  · rintro i y σ' H' hy ⟨G', p⟩
    obtain ⟨x, hx, r⟩ := pr_get' h3 hy
    obtain ⟨cs', w'⟩ := hP _ _ _ _ p
    exact hs i x y σ' G' H' hx p (R.mono w'.f.gg r)
  · rintro σ' H' ⟨G', p⟩
    rw [h3.length] at p
    exact hd σ' G' H' p
/-- f(.., cell, ..), the cell only read -/
theorem e_callB {B : Rep κ} {ad : ι → Addr} {f : List κ → ι → Option γ} {ys : List κ} {ta : TA} {mi : Option ι} {X : XK} (ha : EA ta σ G W A mi) (L : Lent G W l B ys) (hl : ∀ i, mi = some i → ad i = l) : E (tCall (PB A ad B T f) [] X ta) σ G W T (mi >>= fun i => f ys i) := fun z hz H e e' Q q => by
  obtain ⟨i, hi, hz⟩ := bindS hz
  refine ha i hi H e e' _ fun vs H1 G1 u1 r1 => ?_
  rw [List.append_nil]
  have := hl i hi
  subst this
  exact ⟨G1, i, ys, z, u1.gh, r1, L.up e' u1, hz, fun v H2 G2 u2 r => q v H2 G2 (u1.trans u2) r⟩
theorem e_makeB {B : Rep κ} {ad : ι → Addr} {f : List κ → ι → Option α} {ys : List κ} {ta : TA} {mi : Option ι} {X : XK} (ha : EA ta σ G W A mi) (L : Lent G W l B ys) (hl : ∀ i, mi = some i → ad i = l) : E (tMake C (PIB C A ad B ns fl f) [] X ta) σ G W (rObj C ns fl) (mi >>= fun i => f ys i) := fun z hz H e e' Q q => by
  obtain ⟨i, hi, hz⟩ := bindS hz
  refine ha i hi H e e' _ fun vs H1 G1 u1 r1 => ?_
  have := hl i hi
  subst this
  intro x dx nx ndx ne
  rw [List.append_nil]
  have w1 : Wd G1 (upd (upd H1 dx (.own x)) x (.ins C dx [])) [(x, cI C [] [])] := new_ins u1.gh nx ndx ne
  have L1 := L.up e' u1
  have L2 : Lent G1 (upd (upd H1 dx (.own x)) x (.ins C dx [])) (ad i) B ys := by
    obtain ⟨vs', h2, h3⟩ := L1.at_
    exact ⟨L1.n, vs', by rw [upd_ne (ne_of_none h2 nx), upd_ne (ne_of_none h2 ndx)]; exact h2, h3⟩
  refine ⟨G1, x, vs, i, ys, z, rfl, w1, r1, L2, hz, fun H2 G2 fr w2 => ⟨rfl, ?_⟩⟩
  obtain ⟨G3, k1, k2, k3, dx', fs, k4, k5⟩ := ob_freeze w2
  have hh : Ex H1 H2 := fun a o h => by
    have na : a ≠ x := ne_of_none h nx
    have nd : a ≠ dx := ne_of_none h ndx
    exact fr.fr a o (by rw [upd_ne na, upd_ne nd]; exact h) fun z => na (List.mem_singleton.mp z)
  have up : Up G1 H1 G3 H2 := ⟨fr.gg.trans k1, k2, hh, fun a h1 h2 => by
    have na : a ≠ x := fun z => by subst z; exact h1 nx
    have nd : a ≠ dx := fun z => by subst z; exact h1 ndx
    exact k3 a na (fr.nw a (by rw [upd_ne na, upd_ne nd]; exact h1) h2)⟩
  exact q _ H2 G3 (u1.trans up) ⟨x, dx', fs, rfl, k4, k5⟩
end
/-! ### a method by its name, with its promise -/
def Fm (P : Program) (w : World) (K : PySem.W.Frag) (mg : Str → Option Value) (base : Heap) (CX : CXT) (k : Nat) (c m : Str) (ps : List Str) (sp : Sp) : Prop :=
  ∃ fd, FnOk P w K mg base CX k (He.ma K (He.ga K c) m) fd ps sp ∧ Binds K fd ps []
theorem fm_mk {K : PySem.W.Frag} {mg : Str → Option Value} {P : Program} {w : World} {base : Heap} {CX : CXT} {k : Nat} {c m x qual : Str} {ps : List Str} {sp : Sp} {fd : FuncData} {params : Arguments} {body : List Stmt} {scope : Scope} (F : FunD K x qual params body scope [] [] (He.ma K (He.ga K c) m) fd)
    (hb : ∀ (kV doc pm : Value) (an : Option Addr) (cdv ct : Value) (us : List Value), us.length = ps.length → bindArgs (PySem.W.fnOf x qual params body scope .none kV doc pm an cdv ct) ⟨us, []⟩ = pure (ps.zip us))
    (h : FnOk P w K mg base CX k (He.ma K (He.ga K c) m) fd ps sp) : Fm P w K mg base CX k c m ps sp := ⟨fd, h, F.bindsN hb⟩
/-! ### data that is compared -/
section
variable {α β : Type} {R : Rep α} {S : Rep β}
theorem pr_dp {d : α → PyData} {n : Nat} (h : Dt R d n) {K : PySem.W.Frag} {H : Hp} : ∀ {vs : List V} {xs : List α}, Paired (R.r H) vs xs → DpAll K H vs (xs.map d)
  | _, _, .nil => .nil
  | _, _, .cons r t => .cons (h.dp r) (pr_dp h t)
theorem layAll {d : α → PyData} {n : Nat} (h : Dt R d n) : ∀ xs : List α, PyData.plainAll (xs.map d) = true
  | [] => rfl
  | x :: xs => Bool.and_eq_true_iff.mpr ⟨h.lay x, layAll h xs⟩
theorem depAll {d : α → PyData} {n : Nat} (h : Dt R d n) : ∀ xs : List α, PyData.depthAll (xs.map d) ≤ n
  | [] => Nat.zero_le _
  | x :: xs => Nat.max_le.mpr ⟨h.dep x, depAll h xs⟩
theorem eqAll {d : α → PyData} {n : Nat} (h : Dt R d n) : ∀ xs ys : List α, PyData.eqvAll (xs.map d) (ys.map d) = true ↔ xs = ys
  | [], [] => by simp [PyData.eqvAll]
  | x :: xs, y :: ys => by
    simp only [List.map_cons, PyData.eqvAll, Bool.and_eq_true, h.eq, eqAll h xs ys, List.cons.injEq]
  | [], y :: ys => by simp [PyData.eqvAll]
  | x :: xs, [] => by simp [PyData.eqvAll]
theorem dtL {d : α → PyData} {n : Nat} (h : Dt R d n) : Dt (rL R) (fun xs => PyData.list (xs.map d)) (n + 1) :=
  ⟨fun ⟨a, vs, e, h2, h3⟩ => by rw [e]; exact .lst (Or.inl (Or.inl h2)) (pr_dp h h3), fun xs => layAll h xs, fun xs => Nat.succ_le_succ (depAll h xs), fun xs ys => by simp only [PyData.eqv]; exact eqAll h xs ys⟩
theorem dtT {d : α → PyData} {n : Nat} (h : Dt R d n) : Dt (rT R) (fun xs => PyData.tuple (xs.map d)) (n + 1) :=
  ⟨fun ⟨a, vs, e, h2, h3⟩ => by rw [e]; exact .tup (Or.inl (Or.inl h2)) (pr_dp h h3), fun xs => layAll h xs, fun xs => Nat.succ_le_succ (depAll h xs), fun xs ys => by simp only [PyData.eqv]; exact eqAll h xs ys⟩
theorem dtP {d : α → PyData} {f : β → PyData} {n k : Nat} (h : Dt R d n) (h' : Dt S f k) : Dt (rP R S) (fun p => PyData.tuple [d p.1, f p.2]) (max n k + 1) :=
  ⟨fun ⟨a, x, y, e, h2, h3, h4⟩ => by rw [e]; exact .tup (Or.inl (Or.inl h2)) (.cons (h.dp h3) (.cons (h'.dp h4) .nil)), fun p => by
    show (PyData.plain _ && (PyData.plain _ && true)) = true
    rw [h.lay, h'.lay]; rfl, fun p => by
    show max (PyData.depth _) (max (PyData.depth _) 0) + 1 ≤ _
    have := h.dep p.1; have := h'.dep p.2; omega, fun p q => by
    simp only [PyData.eqv, PyData.eqvAll, Bool.and_eq_true, h.eq, h'.eq, and_true]
    exact ⟨fun ⟨a, b⟩ => Prod.ext a b, fun e => by subst e; exact ⟨rfl, rfl⟩⟩⟩
end
end Sim
namespace Sim
open PySem L2 Evl
section
variable {K : PySem.W.Frag} {σ : L2.St} {G0 H0 G H G2 H2 W : Hp} {ls : List Addr} {cs : Cs} {l C : Addr} {te : TE} {α β : Type} {R : Rep α} {S : Rep β} {ns : List Str}
/-- the script -/
def rScr (K : PySem.W.Frag) : Rep (List Int) := ⟨fun H v xs => ∃ a, v = .ref a ∧ SqL K H a (xs.map V.int), fun e ⟨a, h1, h2⟩ => ⟨a, h1, ex_l e h2⟩⟩
theorem rr_ixScr : RR (rIxL K) (rScr K) rI rI (fun xs i => atI xs i) := fun v w xs i z H G hv hw hz e Q q => by
  obtain ⟨a, rfl, h2⟩ := hv
  cases hw
  have hz' : (ixN xs.length i).bind (fun j => xs[j]?) = some z := hz
  cases hj : ixN xs.length i with
  | none => rw [hj] at hz'; cases hz'
  | some j =>
    rw [hj] at hz'
    have hz2 : xs[j]? = some z := hz'
    refine ⟨a, _, i, .int z, rfl, rfl, ex_l e h2, ?_, q _ H G (Up.refl e) rfl⟩
    show (ixN (xs.map V.int).length i).bind (fun j => (xs.map V.int)[j]?) = some (.int z)
    rw [List.length_map, hj]
    show (xs.map V.int)[j]? = _
    rw [List.getElem?_map, hz2]; rfl
theorem rc_lenScr : RC (rLn K) (aC (rScr K) aN) rI (fun i => some (i.1.length : Int)) := fun vs i z H G hv hz e Q q => by
  cases hz
  obtain ⟨v, ws, rfl, ⟨a, rfl, h2⟩, rfl⟩ := hv
  refine ⟨a, _, rfl, Or.inl (ex_l e h2), q _ H G (Up.refl e) ?_⟩
  show V.int _ = V.int _
  rw [List.length_map]
def powM (a b : Int) : Option Int := if 0 ≤ b ∧ b ≤ 1000000 ∧ a.natAbs < 2 ^ 64 then some (a ^ b.toNat) else none
theorem rr_pow : RR (L2.rI CPow fun i j => .int (i ^ j.toNat)) rI rI rI powM := rr_I fun i j z h => by
  unfold powM at h
  split at h
  · rename_i hc; cases h; exact ⟨hc, fun _ => rfl⟩
  · cases h
/-- self.NAME while self is being made -/
theorem e_conC {G' : Hp} {i j : Nat} {f : Str} {v : V} {uu : Value} {x : β} {ps : List Pd} (w : Wo G0 H0 ls G H cs) (hc : cs[j]? = some (l, cI C ns ps)) (hi : σ[i]? = some (some (.ref l))) (hC : Cls K C) (hk : Con K C f v uu) (hz : ns.contains f = false) (hv : ∀ H, S.r H v x) : E (tCon K (tVar i) f) σ G' H S (some x) := fun y hy H' e e' Q q => by
  cases hy
  obtain ⟨_, o, k2, dx, fs, rfl, k3⟩ := w.w.getAt hc
  exact ⟨.ref l, hi, l, C, dx, fs, v, uu, rfl, e' _ _ k2, hC, hk, look_no k3.1 hz, q _ H' G' (Up.refl e) (hv G')⟩
theorem el_listRg {m : Option Int} (h : E te σ G W rI m) : EL (tLstRg (tRg1 te)) σ G W rI (m >>= fun n => rngM 0 n) := fun z hz H e e' Q q => by
  obtain ⟨n, hn, hz⟩ := bindS hz
  refine h n hn H e e' _ fun v H1 G1 u r => ?_
  unfold rngM at hz
  split at hz
  · rename_i hb
    cases hz
    refine ⟨n, r, ⟨by omega, by omega, by omega, by omega, by omega⟩, fun p hp => q p _ G1 (fresh_back u.hh hp) (u.trans (up_new u.gh hp)) (wd_new u.gh hp ?_)⟩
    have : rgV 0 n = (rng 0 n).map V.int := by unfold rgV rng; rw [List.map_map]; rfl
    rw [this]
    exact ints_pr _
  · cases hz
end
end Sim

set_option maxHeartbeats 4000000
/-! own exceptions: an __init__ whose first statement is super().__init__(text) -/
namespace Sim
open PySem PySem.Spec PyProof.Rows L2 PySem.W PySem.Calls NdefX
/-- what the written part says of such an __init__ -/
structure SupC (P : Program) (K : Frag) (mg : Str → Option Value) (C f : Addr) (fd : FuncData) (F : NF) (ps : List Str) : Prop where
  lk : ∃ oc od osl kV doc pm an ct, fd = PySem.W.fnX F.name F.qual F.params F.body F.scope F.cl .none kV doc pm an (.ref F.c) ct ∧ K.lookup f = some ⟨oc, od, .func fd, osl⟩
  cd : PySem.W.codeIn K (.ref F.c) F.qual = true
  cl : ∃ cc oc od osl, F.cl = [(("__class__" : Str), cc)] ∧ K.lookup cc = some ⟨oc, od, .cell (some (.ref C)), osl⟩
  par : ∃ ar ps', (F.params.posonlyargs ++ F.params.args).head? = some ar ∧ ps = ar.arg :: ps' ∧ F.scope.names.lookup ar.arg = some .local
  code : ∃ ccl cdd vs ccs file tf, K.lookup F.c = some ⟨ccl, cdd, .fields vs, ccs⟩ ∧ vs[2]? = some (.str file tf) ∧ ((P.main.file : Str) == file) = true
  cls : ∃ cdD, clsIn K C = some cdD
  sub : mroIn K C (.ref C) = some true
  ks : F.scope.names.lookup ("super" : Str) = some .globalImplicit
  kc : F.scope.names.lookup ("__class__" : Str) = some .free
  mg : mg "super" = none
  top : (P.main.scope.names.lookup ("super" : Str)).isSome = false
  opq : nsIn K cStatics "thirdparty.any" = some none
  sup : ks_superIn K C C "__init__" = some (some (.builtin "ValueError.__init__"))
  ve : subIn K (.ref C) (.type "ValueError") = some true
  ex : OexC K C
section
variable {CX : CXT} {P : Program} {w : World} {K : PySem.W.Frag} {mg : Str → Option Value} {base : Heap} {N ps : List Str} {F : NF} {C f : Addr} {fd : FuncData} {k : Nat} {sp : Sp} {t : Str} {rest : List Stmt} {p0 p1 p2 p3 p4 pc : Pos} {j : Nat} {pl : Sem Bool}
theorem fn_exc (S : NScope N ps ["__class__"] F.scope) (Y : SupC P K mg C f fd F ps) (hbd : F.body = .Expr (.Call (.Attribute (.Call (.Name "super" p0) [] [] p1) "__init__" p2) [.Constant (.str t) j pc] [] p3) p4 :: rest)
    (hev : ∀ L : Addr, eval (.Call (.Attribute (.Call (.Name "super" p0) [] [] p1) "__init__" p2) [.Constant (.str t) j pc] [] p3) (envF F f L) = (do
      let ov ← attributeBase (.Call (.Name "super" p0) [] [] p1) "__init__" (envF F f L) (eval (.Call (.Name "super" p0) [] [] p1) (envF F f L))
      standAt p2.atName
      let (g, first) ← holding [ov] (getMethod ov "__init__" pl)
      callWith p3 g first (backTo p3 (starEach [.Constant (.str t) j pc] (envF F f L))) []))
    (hint : ∀ L : Addr, interactive (envF F f L) = false)
    (len : ∀ vs H Q E, sp vs H Q E → vs.length = ps.length)
    (hbody : ∀ (A : Around) (outer : List Env) (s : Shared) (H : Hp) (vs : List V) (Q : VK) (E : XK), Room k (A.deeper (envF F f s.heap.objs.size)) → sp vs H Q E →
      ∃ a vs', vs = .ref a :: vs' ∧ H a = some (exo a C none) ∧ ∃ t, PSs (ncx CX P w K mg base N F f A outer s H E) rest t ∧ t { nx := fun _ H' => Q .non H', rt := Q } (startF N vs [none]) H) :
    FnOk P w K mg base CX (k + 1) f fd ps sp := by
  obtain ⟨oc, od, osl, kV, doc, pm, an, ct, rfl, lk⟩ := Y.lk
  refine ⟨len, fun A outer s H args us vs Q E hr e0 hb r hsp => ?_⟩
  have hl := len _ _ _ _ hsp
  have KX : K.In s.heap := e0.mod.kin.keeps fun b o e => (e0.bs b o e).1
  have lim : s.heap.NoLimit := e0.mod.nolimit.keeps fun b o e => (e0.bs b o e).1
  refine codeAny_call_function hr.depth (KX _ _ lk) rfl S.co S.gen rfl (PySem.W.codeRec_of KX Y.cd) (hb _ _ _ _ ?_)
  refine wpAny_newFunctionEnv S.nocell (fun ⟨n, _⟩ hy => S.par n (List.of_mem_zip hy).1) (fun h₁ hns hsb => ⟨lim.fresh _ hsb, ?_⟩) S.kind
  show codeAny _ _ (.func F.body (envF F f s.heap.objs.size)) _ _
  have kp : ∀ b o, s.heap.get? b = some o → h₁.get? b = some o := fun b o e => hsb.extBut b o (Nat.ne_of_lt (Heap.lt_size e)) (Heap.get?_push_of_some _ e)
  obtain ⟨a, vs', rfl, ea, tt, ht, hq⟩ := hbody A outer s H vs Q E (hr.deeper _) hsp
  obtain ⟨cc, kc0, kc1, kc2, hcl, hcc⟩ := Y.cl
  have ccb : base.get? cc = some ⟨kc0, kc1, .cell (some (.ref C)), kc2⟩ := e0.mod.kin _ _ hcc
  have CA : CellsAt F.cl ["__class__"] [none] s.heap H := by
    rw [hcl]
    have look : ∀ y c, ([(("__class__" : Str), cc)] : List (Str × Addr)).lookup y = some c → y = "__class__" ∧ c = cc := fun y c e => by
      rw [List.lookup_cons] at e
      cases h : (y == ("__class__" : Str)) with
      | true => rw [h] at e; cases e; exact ⟨eq_of_beq h, rfl⟩
      | false => rw [h] at e; cases e
    refine ⟨rfl, fun y c e => ?_, fun x y c e1 e2 => ?_, fun i y e => ?_⟩
    · obtain ⟨_, rfl⟩ := look y c e
      exact ⟨(e0.bs _ _ ccb).2, _, ⟨_, (e0.bs _ _ ccb).1, rfl⟩⟩
    · rw [(look x c e1).1, (look y c e2).1]
    · cases i with
      | zero =>
        cases e
        exact ⟨cc, by rfl, fun v e => by cases e⟩
      | succ i => cases e
  have I : Inv (ncx CX P w K mg base N F f A outer s H E) [] (startF N (.ref a :: vs') [none]) H { s with heap := h₁, toks := s.toks + (ps.zip us).length } := inv_startN S hr.hd e0 hl r CA hns kp
  refine ks_codeAny_funcAt ?_
  have fin : ∀ {σ' : L2.St} {H' : Hp} {v : V} {u : Value} {s' : Shared}, Inv (ncx CX P w K mg base N F f A outer s H E) [] σ' H' s' → RelV v u → Q v H' → CE outer P w H s Q u s' :=
    fun {σ' H' v u s'} J rv q => ⟨v, H', J.os, J.bare, J.base, J.hok, rv, q⟩
  have tail : ∀ s1 : Shared, Inv (ncx CX P w K mg base N F f A outer s H E) [] (startF N (.ref a :: vs') [none]) H s1 →
      _root_.PySem.wpAt (model P w) (A.deeper (envF F f s.heap.objs.size)) (.func F.body (envF F f s.heap.objs.size)) (execs rest (envF F f s.heap.objs.size)) (fun f s' => CR CX outer P w H s Q E (.ok (.ret (match f with | .ret v => v | _ => .none))) s')
        (fun e s' => wpAny (model P w) (A.deeper (envF F f s.heap.objs.size)) (leaving (envF F f s.heap.objs.size) e) (fun _ s'' => CR CX outer P w H s Q E (.error e) s'') (fun e' s'' => CR CX outer P w H s Q E (.error e') s'') s') s1 := by
    intro s1 I1
    refine wpAt_of_wpAny (wpAny_mono (ht.run [] _ (startF N (.ref a :: vs') [none]) H _ I1 hq) (fun fl s' hs => ?_) fun e s' hs => hs)
    cases fl with
    | ret u =>
      obtain ⟨v, σ', H', J, rv, q⟩ := hs
      exact fin J rv q
    | next =>
      obtain ⟨σ', H', J, q⟩ := hs
      exact fin (v := V.non) (u := Value.none) J rfl q
    | brk =>
      obtain ⟨_, _, _, q⟩ := hs
      exact False.elim q
    | cont =>
      obtain ⟨_, _, _, q⟩ := hs
      exact False.elim q
  rw [hbd]
  rw [← hbd]
  refine (congrArg (fun z => _root_.PySem.wpAt (model P w) (A.deeper (envF F f s.heap.objs.size)) (.func F.body (envF F f s.heap.objs.size)) (execs z (envF F f s.heap.objs.size)) _ _ _) hbd).mpr ?_
  refine ks_wpAt_execs_cons (ks_wpAt_Expr_any (ks_wpAt_MethodCall ?_ (hev _)) (hint _))
  obtain ⟨ar, ps', hp, hps, hka⟩ := Y.par
  obtain ⟨ccl, cdd, cvs, ccs, file, tf, hcode, hvs, hfile⟩ := Y.code
  obtain ⟨cdD, hD⟩ := Y.cls
  obtain ⟨oD, hD1, hD2⟩ : ∃ oD, h₁.get? C = some oD ∧ oD.data = .cls cdD := by
    unfold clsIn at hD
    split at hD
    · rename_i c d cd' sl ho
      cases hD
      exact ⟨_, I.kIn _ _ ho, rfl⟩
    · cases hD
  obtain ⟨t1, ho⟩ := exo_at I.hok ea
  obtain ⟨mb, hb1, hb2⟩ := I.mod.blt
  have hboot : bootBuiltins "super" = some (.type "super") := by kernel_rfl
  refine ks_wpAt_super_base (env := envF F f s.heap.objs.size) (fd := PySem.W.fnX F.name F.qual F.params F.body F.scope F.cl .none kV doc pm an (.ref F.c) ct) Y.ks Y.kc (by decide) rfl (I.kIn _ _ lk) rfl hp rfl (I.kIn _ _ hcode) rfl hvs hfile Y.top ?_
  refine ks_loadName_global S.kind Y.ks (loadGlobal_builtin (env := envF F f s.heap.objs.size) (I.mod.glob.keeps I.bk) Y.mg (hb1.keeps I.bk) ((hb2 _ (by decide)).trans hboot) ⟨rfl, ?_⟩)
  refine wpAny_loadName_free S.kind Y.kc (show List.lookup ("__class__" : Str) F.cl = some cc by rw [hcl]; rfl) ⟨_, I.kIn _ _ hcc, rfl⟩ ?_
  have hself : (ps.zip us).reverse.lookup ar.arg = some (.ref a) := by
    have ndP : ps.Nodup := by
      have q := S.nd.sublist (List.take_sublist (ps.length + [("__class__" : Str)].length) N)
      rw [S.pre] at q
      exact (List.nodup_append.mp q).1
    cases r with
    | cons rx rr =>
      cases rx
      exact zip_look (i := 0) ndP (by rw [hps]; rfl) rfl
  refine wpAny_loadName_local S.kind hka hns hself ?_
  refine ks_wpAny_isType_cls hD1 hD2 ⟨rfl, ?_⟩
  refine ks_wpAny_call_super hD1 hD2 ho rfl (fun c e => by cases e) (looks_mroIn I.kIn Y.sub) (fun h2 e2 k2 => ?_)
  have I2 := I.kept (t' := s.toks + (ps.zip us).length) (h' := h2) k2
  have ho2 := k2 _ _ ho
  have A2 : InstAt h2 a { cls := .ref C, dict := none, data := .fields #[.ref t1, .none, .none, .none, .bool false, .none] } C none := ⟨ho2, rfl, rfl, trivial⟩
  have hI : Looks (model P w) h2 (isInstance (.ref a) (.type "ValueError")) true := A2.type.andThen (looks_subIn I2.kIn Y.ve)
  have hsu := Y.sup
  unfold ks_superIn at hsu
  rw [hD] at hsu
  refine kxs_getMethod kxs_ValueError e2 (looks_opaque I2.kIn Y.opq) (l₀ := cdD.mro) (fun A Q E s k q => wpAny_bind ((looks_clsIn I2.kIn hD) A _ E s k (wpAny_pure q))) rfl I2.kIn hsu hI (ks_ne I2.kIn A2 hD) (by decide) ?_
  have I3 := I2.kept (t' := s.toks + (ps.zip us).length + 1) (h' := h2.push (kxs_mw "ValueError.__init__" a)) (fun b o e => Heap.get?_push_of_some _ e)
  have hu : (h2.push (kxs_mw "ValueError.__init__" a)).get? h2.objs.size = some (kxs_mw "ValueError.__init__" a) := Heap.get?_push_at rfl rfl
  refine kxs_callWith (i := "ValueError.__init__") (x := a) rfl ?_
  refine evalArgs_plain (spliced_cons ?_)
  show wpAny _ _ (eval (.Constant (.str t) j pc) (envF F f s.heap.objs.size)) _ _ _
  refine Calls.Constant_str (spliced_nil ⟨hu, ?_⟩)
  obtain ⟨nm, q, NN, bs, bm, sn, sub, ab, col, dd, k0, k1, k2', k3, k5, hC, hbm⟩ := Y.ex.cls
  have hC3 := I3.kIn _ _ hC
  have ho3 : (h2.push (kxs_mw "ValueError.__init__" a)).get? a = some (PySem.W.excObj C t1 none .none) := Heap.get?_push_of_some _ ho2
  refine wpAny_call (codeAny_of_tree ?_)
  show wpAny _ (A.deeper (envF F f s.heap.objs.size)).in1 (callAny (.ref h2.objs.size) ⟨_, []⟩) _ _ _
  simp only [callAny]
  refine wpAny_bind (wpAny_load hu ?_)
  simp only [kxs_mw, show (Value.type "method-wrapper" == Value.type "method" || Value.type "method-wrapper" == Value.type "builtin_function_or_method" || Value.type "method-wrapper" == Value.type "method-wrapper") = true by decide, if_true]
  refine KFB.if_so (by decide) ?_
  refine wpAny_bind (check_bound_init PySem.F.excBase_ValueError.toExcCallFacts hC3 ho3 rfl ?_)
  refine wpAny_bind (wpAny_pure (wpAny_pure ?_))
  refine ⟨plainId_quiet PySem.F.excBase_ValueError.init.plain _, codeAny_builtin PySem.F.excBase_ValueError.initEntry ?_⟩
  refine exc_init_tree (cls := .ref C) (t0 := t1) (dv := none) (c2 := .none) (c3 := .none) (b4 := .bool false) ho3 (by rw [sizeLine_eq]; simp) (fun h4 kk e4 t4 => ?_)
  have J := I3.write (h' := h4) (t' := s.toks + (ps.zip us).length + 1 + 1) (x := a) (e := a) (o := exo a C none) (by rw [ea]; exact True.intro) (.inl rfl) kk ⟨_, e4⟩ (exo_ok e4)
  have eu : upd H a (exo a C none) = H := by
    funext b
    by_cases hb : b = a
    · rw [hb, upd_same, ea]
    · rw [upd_ne hb]
  rw [eu] at J
  exact tail _ J
end
end Sim

/-! own exceptions: what the top's end says of them -/
namespace Sim
open PySem PySem.Spec PyProof.Rows L2 PySem.W PySem.Calls NdefX
def oexB (K : Frag) (C : Addr) : Bool := (match K.lookup C with
  | some ⟨.type "type", _, .cls cd, sl⟩ => (match cd.mro, sl.toList with
    | .ref C' :: bm, [_, _, _, _, some (.builtin n), _] => C' == C && n == "ValueError.__new__" && !cd.hasDel && PySem.HandSPX.refsVE bm && cd.hasDict
    | _, _ => false)
  | _ => false) && (decide (findIn K (.ref C) "__setattr__" = some (some (.builtin "object.__setattr__"))) && (decide (subIn K (.ref C) (.type "BaseException") = some true) && (decide (typeIn K (.ref C) = some (.type "type")) && keepIn K (.ref C))))
theorem oexB_ok {K : Frag} {C : Addr} (h : oexB K C = true) : OexC K C := by
  unfold oexB at h
  obtain ⟨q, h⟩ := He.ba h
  obtain ⟨h1, h⟩ := He.ba h
  obtain ⟨h2, h⟩ := He.ba h
  obtain ⟨h3, h4⟩ := He.ba h
  refine ⟨?_, of_decide_eq_true h1, of_decide_eq_true h2, of_decide_eq_true h3, h4⟩
  split at q
  · rename_i dd cd sl ho
    split at q
    · rename_i C' bm k0 k1 k2 k3 n k5 hm hs
      simp only [Bool.and_eq_true, beq_iff_eq, Bool.not_eq_true'] at q
      obtain ⟨⟨⟨⟨rfl, rfl⟩, hdel⟩, ht⟩, hdict⟩ := q
      obtain ⟨nm, bs, mro, ns, qn, hd, sn, sub, ab, col, del⟩ := cd
      dsimp only at hm hdel hdict
      subst hm hdel hdict
      have hsl : sl = #[k0, k1, k2, k3, some (.builtin "ValueError.__new__"), k5] := by
        rw [← Array.toArray_toList (xs := sl), hs]
      subst hsl
      exact ⟨nm, qn, ns, bs, bm, sn, sub, ab, col, dd, k0, k1, k2, k3, k5, ho, ht⟩
    · cases q
  · cases q
/-- an own __init__ of an exception class: what is looked at -/
abbrev FnY : Type := Option (Str × Arguments × FuncBody × Scope × Addr × List Str × Addr)
structure XcD where
  cls : Str
  qual : Str
  params : Arguments
  body : List Stmt
  scope : Scope
def xcAd (K : Frag) (x : Str) : Addr := He.ma K (He.ga K x) "__init__"
def fnY (K : Frag) (x : Str) : FnY := match K.lookup (xcAd K x) with
  | some ⟨_, _, .func fd, _⟩ => some (fd.qualname, fd.params, fd.body, fd.scope, fd.globals, fd.closure.map (·.1), fd.builtins)
  | _ => none
def XcD.val (d : XcD) : FnY := some (d.qual, d.params, .stmts d.body, d.scope, mainGlobals, ["__class__"], builtinsNs)
def XcD.fdB (K : Frag) (file : Str) (d : XcD) : Bool := match K.lookup (xcAd K d.cls) with
  | some ⟨_, _, .func fd, _⟩ => (match fd.closure with
    | [(_, cc)] => (match K.lookup cc with
      | some ⟨_, _, .cell (some (.ref D)), _⟩ => D == He.ga K d.cls
      | _ => false)
    | _ => false) && (match fd.code with
    | .ref cda => codeIn K (.ref cda) d.qual && (match K.lookup cda with
      | some ⟨_, _, .fields vs, _⟩ => (match (vs[2]? : Option Value) with
        | some (.str fl _) => fl == file
        | _ => false)
      | _ => false)
    | _ => false) && (decide (fd.name = ("__init__" : Str)) && (match fd.defaults with
    | .none => true
    | _ => false))
  | _ => false
def XcD.ok (K : Frag) (file : Str) (d : XcD) : Bool := d.fdB K file && (oexB K (He.ga K d.cls) && ((clsIn K (He.ga K d.cls)).isSome && (decide (mroIn K (He.ga K d.cls) (.ref (He.ga K d.cls)) = some true) &&
  (decide (nsIn K cStatics "thirdparty.any" = some none) && (decide (ks_superIn K (He.ga K d.cls) (He.ga K d.cls) "__init__" = some (some (.builtin "ValueError.__init__"))) && (decide (subIn K (.ref (He.ga K d.cls)) (.type "ValueError") = some true) &&
  (decide (findIn K (.ref (He.ga K d.cls)) "__init__" = some (some (.ref (xcAd K d.cls)))) && decide (typeIn K (.ref (xcAd K d.cls)) = some (.type "function")))))))))
/-- what is known of the class -/
structure XcK (P : Program) (K : Frag) (mg : Str → Option Value) (d : XcD) : Prop where
  ex : ∃ fd cc c, SupC P K mg (He.ga K d.cls) (xcAd K d.cls) fd ⟨"__init__", d.qual, d.params, d.body, d.scope, [("__class__", cc)], c⟩ ((d.params.posonlyargs ++ d.params.args).map (·.arg))
  oex : OexC K (He.ga K d.cls)
  ini : findIn K (.ref (He.ga K d.cls)) "__init__" = some (some (.ref (xcAd K d.cls)))
  ty : typeIn K (.ref (xcAd K d.cls)) = some (.type "function")
theorem XcD.known {P : Program} {K : Frag} {mg : Str → Option Value} {d : XcD} (e : fnY K d.cls = d.val) (c : d.ok K P.main.file = true) (hmg : mg "super" = none) (htop : (P.main.scope.names.lookup ("super" : Str)).isSome = false)
    (hks : d.scope.names.lookup ("super" : Str) = some .globalImplicit) (hkc : d.scope.names.lookup ("__class__" : Str) = some .free) {ar : Arg} {ars : List Arg} (hpa : d.params.posonlyargs ++ d.params.args = ar :: ars) (hka : d.scope.names.lookup ar.arg = some .local) : XcK P K mg d := by
  unfold XcD.ok at c
  obtain ⟨c0, c⟩ := He.ba c
  obtain ⟨c1, c⟩ := He.ba c
  obtain ⟨c2, c⟩ := He.ba c
  obtain ⟨c3, c⟩ := He.ba c
  obtain ⟨c4, c⟩ := He.ba c
  obtain ⟨c5, c⟩ := He.ba c
  obtain ⟨c6, c⟩ := He.ba c
  obtain ⟨c7, c8⟩ := He.ba c
  refine ⟨?_, oexB_ok c1, of_decide_eq_true c7, of_decide_eq_true c8⟩
  unfold XcD.fdB at c0
  unfold fnY at e
  cases q : K.lookup (xcAd K d.cls) with
  | none => rw [q] at c0; cases c0
  | some o =>
    obtain ⟨oc, od, dt, osl⟩ := o
    rw [q] at c0 e
    cases dt with
    | func fd =>
      obtain ⟨n1, n2, n3, n4, n5, n6, n7, n8, n9, n10, n11, n12, n13, n14, n15⟩ := fd
      have e2 : (some (n2, n3, n4, n5, n6, n7.map (·.1), n15) : FnY) = (some (d.qual, d.params, .stmts d.body, d.scope, mainGlobals, ["__class__"], builtinsNs) : FnY) := e
      simp only [Option.some.injEq, Prod.mk.injEq] at e2
      obtain ⟨h2, h3, h4, h5, h6, h7, h8⟩ := e2
      subst h2 h3 h4 h5 h6 h8
      dsimp only at c0
      obtain ⟨kab, kc⟩ := He.ba c0
      obtain ⟨kA, kB⟩ := He.ba kab
      obtain ⟨kc, kd⟩ := He.ba kc
      have kc := of_decide_eq_true kc
      subst kc
      clear kab c0
      have kd2 : n8 = Value.none := by
        cases n8 with
        | none => rfl
        | _ => cases kd
      subst kd2
      cases n7 with
      | nil => cases h7
      | cons p r =>
        cases r with
        | cons _ _ => simp at h7
        | nil =>
          obtain ⟨nm, cc⟩ := p
          have hn : nm = ("__class__" : Str) := by
            simp only [List.map_cons, List.map_nil, List.cons.injEq, and_true] at h7
            exact h7
          subst hn
          dsimp only at kA
          cases n13 with
          | ref cda =>
            dsimp only at kB
            obtain ⟨k4, k5⟩ := He.ba kB
            cases qc : K.lookup cc with
            | none => rw [qc] at kA; cases kA
            | some oc2 =>
              obtain ⟨a1, a2, a3, a4⟩ := oc2
              rw [qc] at kA
              cases a3 with
              | cell v =>
                cases v with
                | none => cases kA
                | some v =>
                  cases v with
                  | ref D =>
                    have hD : D = He.ga K d.cls := eq_of_beq kA
                    subst hD
                    cases qd : K.lookup cda with
                    | none => rw [qd] at k5; cases k5
                    | some od2 =>
                      obtain ⟨b1, b2, b3, b4⟩ := od2
                      rw [qd] at k5
                      cases b3 with
                      | fields vs =>
                        dsimp only at k5
                        cases qv : vs[2]? with
                        | none => rw [qv] at k5; cases k5
                        | some v2 =>
                          rw [qv] at k5
                          cases v2 with
                          | str fl tf =>
                            have hfl : fl = P.main.file := eq_of_beq k5
                            subst hfl
                            obtain ⟨cdD, hcd⟩ := Option.isSome_iff_exists.mp c2
                            exact ⟨_, cc, cda, ⟨oc, od, osl, n9, n10, n11, n12, n14, rfl, q⟩, k4, ⟨cc, a1, a2, a4, rfl, qc⟩, ⟨ar, ars.map (·.arg), by rw [hpa]; rfl, by rw [hpa]; rfl, hka⟩, ⟨b1, b2, vs, b4, P.main.file, tf, qd, qv, by simp⟩, ⟨cdD, hcd⟩,
                              of_decide_eq_true c3, hks, hkc, hmg, htop, of_decide_eq_true c4, of_decide_eq_true c5, of_decide_eq_true c6, oexB_ok c1⟩
                          | _ => cases k5
                      | _ => cases k5
                  | _ => cases kA
              | _ => cases kA
          | _ => cases kB
    | _ => cases c0
end Sim

/-! own exceptions raised: their mirrors and promises -/
namespace Sim
open PySem PySem.Spec PyProof.Rows L2 Evl NdefX
/-- an exception's field: data -/
inductive Xv where
  | int (i : Int)
  | str (s : Str)
deriving DecidableEq
def rX : Rep Xv := ⟨fun _ v x => match x with
  | .int i => v = .int i
  | .str s => v = .str s, fun {_ _ v x} _ h => by cases x <;> exact h⟩
structure Xn where
  cls : Str
  fs : List (Str × Xv)
/-- its dict at d -/
def Xat (G : Hp) (e : Xn) (d : Addr) : Prop := ∃ fs, G d = some (.xd fs) ∧ ∀ f x, e.fs.lookup f = some x → ∃ v, fs.lookup f = some v ∧ rX.r G v x
/-- what the __init__ of an own exception keeps: names the fields, in order -/
def spX (C : Addr) (names : List Str) : Sp := fun vs H Q _ => ∃ a ws, vs = .ref a :: ws ∧ ws.length = names.length ∧ H a = some (exo a C none) ∧
  ∀ dx, H dx = none → dx ≠ a → Q .non (upd (upd H dx (exd dx (names.zip ws).reverse)) a (exo a C (some dx)))
/-- may raise -/
def PX {ι α : Type} (K : PySem.W.Frag) (A : AR ι) (R : Rep α) (f : ι → Option (Xn ⊕ α)) : Sp := fun vs H Q E => ∃ G i r, Ex G H ∧ A.r G vs i ∧ f i = some r ∧
  (∀ e, r = .inl e → ∀ d H2 G2, Up G H G2 H2 → Xat G2 e d → E (.ref (He.ga K e.cls)) (some d) H2) ∧ (∀ x, r = .inr x → ∀ v H2 G2, Up G H G2 H2 → R.r G2 v x → Q v H2)
section
variable {K : PySem.W.Frag} {σ : L2.St} {G H G0 H0 : Hp} {ls : List Addr} {cs : Cs} {ta : TA} {ι : Type} {A : AR ι}
/-- the reading of raise C(args) -/
def tRs (t : L2.St → Hp → XK → Prop) (W : WX) : TS := fun _ σ H => t σ H fun cls d H' => W cls d σ H'
theorem x_raise {C : Addr} {names : List Str} {m : Option ι} {i : ι} {W : WX} {D : Ends} {tz : TS} (w : Wo G0 H0 ls G H cs) (ha : EA ta σ G H A m) (hm : m = some i)
    (hl : ∀ G vs, A.r G vs i → vs.length = names.length ∧ vs.length ≤ 1000)
    (k : ∀ vs H2 G2 d, Wo G0 H0 ls G2 H2 cs → A.r G2 vs i → Ex G G2 → G2 d = some (.xd (names.zip vs).reverse) → W (.ref C) (some d) σ H2) :
    tSeq (fun _ σ H => tMkO C (spX C names) [] ta σ H fun cls d H' => W cls d σ H') tz D σ H := by
  refine ha i hm H w.ex (Ex.refl _) _ fun vs H1 G1 u r => ?_
  obtain ⟨h1, h2⟩ := hl _ _ r
  refine ⟨h2, fun a na => ⟨a, vs, by rw [List.append_nil], h1, upd_same .., fun dx hdx hne => ⟨rfl, dx, (names.zip vs).reverse, upd_same .., ?_, ?_, ?_⟩⟩⟩
  · rw [upd_ne hne, upd_same]
  · rw [upd_ne hne] at hdx; exact hdx
  · have hdx' : H1 dx = none := by rw [upd_ne hne] at hdx; exact hdx
    have e : upd (del (upd (upd (upd H1 a (exo a C none)) dx (exd dx (names.zip vs).reverse)) a (exo a C (some dx))) a) dx (.xd (names.zip vs).reverse) = upd H1 dx (.xd (names.zip vs).reverse) := by
      funext b
      by_cases hb : b = dx
      · subst hb; rw [upd_same, upd_same]
      · rw [upd_ne hb, upd_ne hb]
        by_cases hba : b = a
        · subst hba; rw [del_same, na]
        · rw [del_ne hba, upd_ne hba, upd_ne hb, upd_ne hba]
    rw [e]
    have u2 := Up.lay (o := HO.xd (names.zip vs).reverse) u.gh hdx'
    have u3 := u.trans u2
    exact k vs _ _ dx ((w.up u).up u2) (A.mono u2.gg r) u3.gg (upd_same ..)
end
end Sim

/-! the __init__ of an own exception, walked -/
namespace Sim
open PySem PySem.Spec PyProof.Rows L2 Evl NdefX
/-- self.f = the i-th name, for each of these -/
def tFlds (K : PySem.W.Frag) : List (Str × Nat) → TS
  | [] => tNext
  | q :: r => tSeq (tOst K q.1 (tVar 0) (tVar q.2)) (tFlds K r)
section
variable {K : PySem.W.Frag} {σ : L2.St} {H : Hp} {a C dx : Addr} {D : Ends}
theorem flds_go (T : OexC K C) (ha : σ[0]? = some (some (.ref a))) (hne : dx ≠ a) : ∀ (r : List (Str × Nat × V)) (fs : List (Str × V)) (H : Hp), (∀ q ∈ r, PySem.W.findIn K (.ref C) q.1 = some none ∧ σ[q.2.1]? = some (some q.2.2)) →
    fs.length + r.length ≤ 900 → H a = some (exo a C (some dx)) → H dx = some (exd dx fs) → D.nx σ (upd H dx (exd dx ((r.map fun q => (q.1, q.2.2)).reverse ++ fs))) → tFlds K (r.map fun q => (q.1, q.2.1)) D σ H
  | [], fs, H, _, _, hA, hD, k => by
    have e : upd H dx (exd dx fs) = H := by
      funext b
      by_cases hb : b = dx
      · rw [hb, upd_same, hD]
      · rw [upd_ne hb]
    have k : D.nx σ (upd H dx (exd dx fs)) := k
    rw [e] at k
    exact k
  | (f, i, y) :: r, fs, H, hq, hl, hA, hD, k => by
    obtain ⟨h1, h2⟩ := hq _ (List.mem_cons_self ..)
    simp only [List.length_cons] at hl
    refine ⟨y, h2, .ref a, ha, a, C, rfl, T, h1, Or.inr ⟨dx, fs, hA, hD, by omega, ?_⟩⟩
    refine flds_go T ha hne r ((f, y) :: fs) _ (fun q h => hq q (List.mem_cons_of_mem _ h)) (by simp only [List.length_cons]; omega) ?_ (upd_same ..) ?_
    · rw [upd_ne (Ne.symm hne)]; exact hA
    · have e : upd (upd H dx (exd dx ((f, y) :: fs))) dx (exd dx ((r.map fun q => (q.1, q.2.2)).reverse ++ (f, y) :: fs)) = upd H dx (exd dx ((((f, i, y) :: r).map fun q => (q.1, q.2.2)).reverse ++ fs)) := by
        funext b
        by_cases hb : b = dx
        · rw [hb, upd_same, upd_same]; simp
        · rw [upd_ne hb, upd_ne hb, upd_ne hb]
      rw [e]
      exact k
theorem flds_all (T : OexC K C) (ha : σ[0]? = some (some (.ref a))) {q0 : Str × Nat × V} {r : List (Str × Nat × V)} (hq : ∀ q ∈ q0 :: r, PySem.W.findIn K (.ref C) q.1 = some none ∧ σ[q.2.1]? = some (some q.2.2)) (hl : r.length ≤ 800) (hA : H a = some (exo a C none))
    (k : ∀ dx, H dx = none → dx ≠ a → D.nx σ (upd (upd H dx (exd dx ((q0 :: r).map fun q => (q.1, q.2.2)).reverse)) a (exo a C (some dx)))) : tFlds K ((q0 :: r).map fun q => (q.1, q.2.1)) D σ H := by
  obtain ⟨f, i, y⟩ := q0
  obtain ⟨h1, h2⟩ := hq _ (List.mem_cons_self ..)
  refine ⟨y, h2, .ref a, ha, a, C, rfl, T, h1, Or.inl ⟨hA, fun dx hdx hne => ?_⟩⟩
  refine flds_go T ha hne r [(f, y)] _ (fun q h => hq q (List.mem_cons_of_mem _ h)) (by simp; omega) (upd_same ..) (by rw [upd_ne hne, upd_same]) ?_
  have e : upd (upd (upd H dx (exd dx [(f, y)])) a (exo a C (some dx))) dx (exd dx ((r.map fun q => (q.1, q.2.2)).reverse ++ [(f, y)])) = upd (upd H dx (exd dx (((f, i, y) :: r).map fun q => (q.1, q.2.2)).reverse)) a (exo a C (some dx)) := by
    funext b
    by_cases hb : b = dx
    · rw [hb, upd_same, upd_ne hne, upd_same]; simp
    · rw [upd_ne hb]
      by_cases hba : b = a
      · rw [hba, upd_same, upd_same]
      · rw [upd_ne hba, upd_ne hba, upd_ne hb, upd_ne hb]
  rw [e]
  exact k dx hdx hne
end
section
variable {CX : CXT} {P : Program} {w : World} {K : PySem.W.Frag} {mg : Str → Option Value} {base : Heap} {N ps : List Str} {F : NF} {C f : Addr} {fd : FuncData} {k : Nat} {t : Str} {rest : List Stmt} {p0 p1 p2 p3 p4 pc : Pos} {j : Nat} {pl : Sem Bool} {names : List Str} {fi : List (Str × Nat)}
theorem xinit (S : NScope N ps ["__class__"] F.scope) (Y : SupC P K mg C f fd F ps) (hbd : F.body = .Expr (.Call (.Attribute (.Call (.Name "super" p0) [] [] p1) "__init__" p2) [.Constant (.str t) j pc] [] p3) p4 :: rest)
    (hev : ∀ L : Addr, eval (.Call (.Attribute (.Call (.Name "super" p0) [] [] p1) "__init__" p2) [.Constant (.str t) j pc] [] p3) (envF F f L) = (do
      let ov ← attributeBase (.Call (.Name "super" p0) [] [] p1) "__init__" (envF F f L) (eval (.Call (.Name "super" p0) [] [] p1) (envF F f L))
      standAt p2.atName
      let (g, first) ← holding [ov] (getMethod ov "__init__" pl)
      callWith p3 g first (backTo p3 (starEach [.Constant (.str t) j pc] (envF F f L))) []))
    (hint : ∀ L : Addr, interactive (envF F f L) = false) (hno : ∀ f ∈ names, PySem.W.findIn K (.ref C) f = some none) (hps : ps.length = names.length + 1)
    (hr : ∀ (a : Addr) (ws : List V), ws.length = names.length → ∃ (q0 : Str × Nat × V) (r : List (Str × Nat × V)), r.length ≤ 800 ∧ ((q0 :: r).map fun q => (q.1, q.2.1)) = fi ∧ ((q0 :: r).map fun q => (q.1, q.2.2)) = names.zip ws ∧ ∀ q ∈ q0 :: r, q.1 ∈ names ∧ (startF N (.ref a :: ws) [none])[q.2.1]? = some (some q.2.2))
    (hrest : ∀ (A : Around) (outer : List Env) (s : Shared) (H : Hp) (E : XK), PSs (ncx CX P w K mg base N F f A outer s H E) rest (tFlds K fi)) :
    FnOk P w K mg base CX (k + 1) f fd ps (spX C names) := by
  refine fn_exc S Y hbd hev hint (fun vs H Q E h => ?_) (fun A outer s H vs Q E _ h => ?_)
  · obtain ⟨a, ws, rfl, h, _⟩ := h
    rw [List.length_cons, h, hps]
  · obtain ⟨a, ws, rfl, hl, hA, kk⟩ := h
    refine ⟨a, ws, rfl, hA, _, hrest A outer s H E, ?_⟩
    obtain ⟨q0, r, h1, h2, h3, h4⟩ := hr a ws hl
    rw [← h2]
    refine flds_all Y.ex (a := a) (by rfl) (fun q hq => ⟨hno _ (h4 q hq).1, (h4 q hq).2⟩) h1 hA (fun dx hdx hne => ?_)
    rw [h3]
    exact kk dx hdx hne
end
end Sim

/-! calls that may raise, at the caller's slots; try -/
namespace L2
open PySem PySem.Spec PyProof.Rows
section
variable {X : Cx} {CX : CXT} {k : Nat} {f C : Addr} {fd : FuncData} {ps : List Str} {sp : Sp} {E : St → XK} {x m : Str} {p pos apos : Pos} {e o : Expr} {es : List Expr} {ta : TE} {t : TA}
/-- o.m(e, ..), what is raised wished for at the slots -/
def tMethT (C : Addr) (m : Str) (sp : Sp) (E : St → XK) (to : TE) (t : TA) : TE := fun σ H Q => to σ H fun x H1 => ∃ a dx fs, x = .ref a ∧ H1 a = some (.ins C dx fs) ∧ fs.lookup m = none ∧ t σ H1 fun vs H2 => sp (.ref a :: vs) H2 Q (E σ)
theorem pe_methT {pl : Sem Bool} (he : PE X o ta) (c : Cls X.K C) (hm : Meth X.K C m f) (F : FnOk X.prog X.w X.K X.mg X.base CX k f fd ps sp) (hr : Room k X.A) (hb : Binds X.K fd ps []) (hx : ∀ σ, PassesAt CX X σ (E σ)) (ha : PA X (e :: es) t)
    (hst : starEach (e :: es) X.env = (false, eval e X.env) :: starEach es X.env := by rfl) (hpl : (backTo pos (starEach es X.env)).any (·.1) = false := by rfl)
    (ht : eval (.Call (.Attribute o m apos) (e :: es) [] pos) X.env = (do
      let ov ← eval o X.env
      standAt apos.atName
      let (f, first) ← holding [ov] (getMethod ov m pl)
      callWith pos f first (backTo pos (starEach (e :: es) X.env)) (backToKw pos (keywordEach [] X.env))) := by rfl) :
    PE X (.Call (.Attribute o m apos) (e :: es) [] pos) (tMethT C m sp E ta t) := by
  refine ⟨fun pins s σ H Q I h => ?_⟩
  refine PySem.W.methodCall_KW (pl := pl) (thn (he.run pins s σ H _ I h) fun u s1 ⟨x, H1, I1, rx, a, dx, fs, ex, ea, l, q⟩ => ?_) ht
  subst ex
  obtain rfl : u = Value.ref a := rx
  refine getmeth_ok I1 ea c hm l ?_
  refine PySem.W.callWith_K (first := [.ref a]) (h₀ := X.base) I.ok.mod.kin hm.kp (thn (ha.run pos pins s1 σ H1 _ I1 q) fun us s2 ⟨vs, H2, I2, r, q2⟩ => ⟨I2.kIn, ?_⟩) hst hpl
  exact run_fnS (us := .ref a :: us) (vs := .ref a :: vs) F hr hb (hx σ) I2 (.cons rfl r) q2
end
/-- several clauses, each with a name -/
def wManyA (K : PySem.W.Frag) (Wout : WX) (D : Ends) : List (Value × Option Nat × (Addr → Value → Option Addr → TS)) → WX
  | [] => Wout
  | (c, some i, ts) :: r => fun cls d σ H => ∃ b, PySem.W.exmOne K cls c = some b ∧ (b = true → ∀ a, H a = none → ts a cls d { nx := fun σ' H' => D.nx (σ'.set i none) H', rt := D.rt, bk := fun σ' H' => D.bk (σ'.set i none) H', ct := fun σ' H' => D.ct (σ'.set i none) H' } (σ.set i (some (.ref a))) H) ∧
      (b = false → wManyA K Wout D r cls d σ H)
  | (c, none, ts) :: r => fun cls d σ H => ∃ b, PySem.W.exmOne K cls c = some b ∧ (b = true → ∀ a, H a = none → ts a cls d D σ H) ∧ (b = false → wManyA K Wout D r cls d σ H)
end L2
namespace Sim
open PySem PySem.Spec PyProof.Rows L2 Evl
section
variable {K : PySem.W.Frag} {σ : L2.St} {G H W G0 H0 : Hp} {ls : List Addr} {cs : Cs} {ta : TA} {to te : TE} {ι α β γ : Type} {A : AR ι} {R : Rep α} {S : Rep β} {T : Rep γ} {t u : TS} {D : Ends}
/-- a reading that may raise -/
def EX (K : PySem.W.Frag) (te : TE) (σ : L2.St) (G W : Hp) (R : Rep α) (m : Option (Xn ⊕ α)) (Wx : XK) : Prop :=
  ∀ r, m = some r → ∀ H, Ex G H → Ex W H → ∀ Q : VK, (∀ e, r = .inl e → ∀ d H2 G2, Up G H G2 H2 → Xat G2 e d → Wx (.ref (He.ga K e.cls)) (some d) H2) → (∀ x, r = .inr x → ∀ v H2 G2, Up G H G2 H2 → R.r G2 v x → Q v H2) → te σ H Q
theorem Xat.mono {G G2 : Hp} {e : Xn} {d : Addr} (x : Ex G G2) (h : Xat G e d) : Xat G2 e d := by
  obtain ⟨fs, h1, h2⟩ := h
  exact ⟨fs, x d _ h1, fun f y hy => by obtain ⟨v, h3, h4⟩ := h2 f y hy; exact ⟨v, h3, rX.mono x h4⟩⟩
theorem ex_call {f : ι → Option (Xn ⊕ γ)} {ta : TA} {m : Option ι} {Wx : L2.St → XK} (ha : EA ta σ G W A m) : EX K (tCallS (PX K A T f) Wx ta) σ G W T (m >>= f) (Wx σ) := fun z hz H e e' Q qx q => by
  obtain ⟨i, hi, hz⟩ := bindS hz
  refine ha i hi H e e' _ fun vs H1 G1 u1 r1 => ?_
  exact ⟨G1, i, z, u1.gh, r1, hz, fun x hx d H2 G2 u2 r2 => qx x hx d H2 G2 (u1.trans u2) r2, fun x hx v H2 G2 u2 r2 => q x hx v H2 G2 (u1.trans u2) r2⟩
theorem ex_meth {C : Addr} {ns : List Str} {fl : α → List Pd} {m : Option α} {mi : Option ι} {me : Str} {f : α × ι → Option (Xn ⊕ γ)} {ta : TA} {Wx : L2.St → XK} (h : E to σ G W (rObj C ns fl) m) (ha : EA ta σ G W A mi) (hi : ns.contains me = false) :
    EX K (tMethT C me (PX K (aC (rObj C ns fl) A) T f) Wx to ta) σ G W T (m >>= fun o => mi >>= fun i => f (o, i)) (Wx σ) := fun z hz H e e' Q qx q => by
  obtain ⟨x, hx, hz⟩ := bindS hz
  obtain ⟨y, hy, hz⟩ := bindS hz
  refine h x hx H e e' _ fun v H1 G1 u r => ?_
  obtain ⟨a, dx, fs, rfl, h2, h3⟩ := r
  refine ⟨a, dx, fs, rfl, u.gh a _ h2, look_no h3.1 hi, ?_⟩
  refine (ha.mono u.gg (e'.trans u.hh)) y hy H1 u.gh (Ex.refl _) _ fun vs H3 G3 u3 r3 => ?_
  exact ⟨G3, (x, y), z, u3.gh, ⟨.ref a, vs, rfl, ⟨a, dx, fs, rfl, u3.gg a _ h2, h3.mono u3.gg⟩, r3⟩, hz, fun x hx d H4 G4 u4 r4 => qx x hx d H4 G4 ((u.trans u3).trans u4) r4, fun x hx v H4 G4 u4 r4 => q x hx v H4 G4 ((u.trans u3).trans u4) r4⟩
/-- f(..), alone -/
theorem x_callX {tz : TS} {m : Option (Xn ⊕ α)} {r : Xn ⊕ α} {Wx : XK} (w : Wo G0 H0 ls G H cs) (h : EX K te σ G H R m Wx) (hm : m = some r) (kx : ∀ e, r = .inl e → ∀ d H2 G2, Wo G0 H0 ls G2 H2 cs → Ex G G2 → Xat G2 e d → Wx (.ref (He.ga K e.cls)) (some d) H2)
    (k : ∀ x, r = .inr x → ∀ H2 G2, Wo G0 H0 ls G2 H2 cs → Ex G G2 → tz D σ H2) : tSeq (tDrop te) tz D σ H :=
  h r hm H w.ex (Ex.refl _) (fun _ H1 => tz D σ H1) (fun e he d H2 G2 u x => kx e he d H2 G2 (w.up u) u.gg x) fun x hx v H2 G2 u _ => k x hx H2 G2 (w.up u) u.gg
/-- x = f(..) -/
theorem x_setX {tz : TS} {i : Nat} {m : Option (Xn ⊕ α)} {r : Xn ⊕ α} {Wx : XK} (w : Wo G0 H0 ls G H cs) (h : EX K te σ G H R m Wx) (hm : m = some r) (kx : ∀ e, r = .inl e → ∀ d H2 G2, Wo G0 H0 ls G2 H2 cs → Ex G G2 → Xat G2 e d → Wx (.ref (He.ga K e.cls)) (some d) H2)
    (k : ∀ x, r = .inr x → ∀ v H2 G2, Wo G0 H0 ls G2 H2 cs → Ex G G2 → R.r G2 v x → tz D (σ.set i (some v)) H2) : tSeq (tAsg te (gName i)) tz D σ H :=
  h r hm H w.ex (Ex.refl _) (fun x H1 => gName i x σ H1 (tz D)) (fun e he d H2 G2 u x => kx e he d H2 G2 (w.up u) u.gg x) fun x hx v H2 G2 u y => k x hx v H2 G2 (w.up u) u.gg y
/-- return f(..) -/
theorem x_retX {tz : TS} {m : Option (Xn ⊕ α)} {r : Xn ⊕ α} {Wx : XK} (w : Wo G0 H0 ls G H cs) (h : EX K te σ G H R m Wx) (hm : m = some r) (kx : ∀ e, r = .inl e → ∀ d H2 G2, Wo G0 H0 ls G2 H2 cs → Ex G G2 → Xat G2 e d → Wx (.ref (He.ga K e.cls)) (some d) H2)
    (k : ∀ x, r = .inr x → ∀ v H2 G2, Wo G0 H0 ls G2 H2 cs → Ex G G2 → R.r G2 v x → D.rt v H2) : tSeq (tRet te) tz D σ H :=
  h r hm H w.ex (Ex.refl _) D.rt (fun e he d H2 G2 u x => kx e he d H2 G2 (w.up u) u.gg x) fun x hx v H2 G2 u y => k x hx v H2 G2 (w.up u) u.gg y
/-- e.f of the caught exception -/
theorem e_xf {a d : Addr} {e : Xn} {f : Str} {i : Nat} {y : Int} (hs : σ[i]? = some (some (.ref a))) (hx : Xat G e d) (hf : e.fs.lookup f = some (.int y)) : E (tXf a (.ref (He.ga K e.cls)) (some d) (He.ga K e.cls) f (tVar i)) σ G W rI (some y) := fun z hz H ee e' Q q => by
  cases hz
  obtain ⟨fs, h1, h2⟩ := hx
  obtain ⟨v, h3, h4⟩ := h2 f _ hf
  have h4 : v = .int y := h4
  subst h4
  exact ⟨.ref a, hs, rfl, rfl, d, fs, .int y, rfl, ee d _ h1, h3, q _ H G (Up.refl ee) rfl⟩
theorem e_xfS {a d : Addr} {e : Xn} {f : Str} {i : Nat} {y : Str} (hs : σ[i]? = some (some (.ref a))) (hx : Xat G e d) (hf : e.fs.lookup f = some (.str y)) : E (tXf a (.ref (He.ga K e.cls)) (some d) (He.ga K e.cls) f (tVar i)) σ G W rS (some y) := fun z hz H ee e' Q q => by
  cases hz
  obtain ⟨fs, h1, h2⟩ := hx
  obtain ⟨v, h3, h4⟩ := h2 f _ hf
  have h4 : v = .str y := h4
  subst h4
  exact ⟨.ref a, hs, rfl, rfl, d, fs, .str y, rfl, ee d _ h1, h3, q _ H G (Up.refl ee) rfl⟩
end
end Sim

/-! try with several clauses, each with or without a name -/
namespace L2
open PySem PySem.Spec PyProof.Rows
/-- one clause: its class, the slot of its name, its suite -/
abbrev Cla : Type := Value × Option Nat × (Addr → Value → Option Addr → TS)
def SuOk (X : Cx) (su : List Stmt) (ts : Addr → Value → Option Addr → TS) : Prop := ∀ (a : Addr) (oe : Obj) (cls : Value) (d : Option Addr) (pn : List (Addr × Obj)), Zc cls d oe → (∃ vs, oe.data = .fields vs) → PSs (X.suite a ((a, oe) :: pn)) su (ts a cls d)
inductive HdsA (X : Cx) : List ExceptHandler → List Cla → Prop
  | nil : HdsA X [] []
  | plain {x : Str} {c : Value} {ts} {b₀ : Stmt} {su : List Stmt} {np p : Pos} {hds l} (hc : Names X x c) (hsu : SuOk X (b₀ :: su) ts) (r : HdsA X hds l) : HdsA X (.ExceptHandler (some (.Name x np)) none (b₀ :: su) p :: hds) ((c, none, ts) :: l)
  | as_ {x n : Str} {i : Nat} {c : Value} {ts} {b₀ : Stmt} {su : List Stmt} {np p : Pos} {hds l} (hc : Names X x c) (hi : X.N[i]? = some n) (hln : X.env.kindOf n = some .local) (hsu : SuOk X (b₀ :: su) ts) (r : HdsA X hds l) :
      HdsA X (.ExceptHandler (some (.Name x np)) (some n) (b₀ :: su) p :: hds) ((c, some i, ts) :: l)
/-- the exception at a is in the air over the state s, sI is the state without it -/
structure Aloft (X : Cx) (pins : List (Addr × Obj)) (σ : L2.St) (H : Hp) (cls : Value) (d : Option Addr) (a : Addr) (B : Heap) (sI s : Shared) : Prop where
  inv : Inv X pins σ H sI
  nb : ∀ b o, sI.heap.get? b = some o → b ∉ frs X.stack → B.get? b = some o
  up : sI.heap.UpToSlots s.heap
  fl : HandSPX.FlyingZ B X.stack a (Zc cls d) s.heap
  na : H a = none
  os : s.os = sI.os
  ag : AllBare s.gens
section
variable {X : Cx} {pins : List (Addr × Obj)} {σ : L2.St} {H : Hp} {cls : Value} {d : Option Addr} {a : Addr} {B : Heap} {sI s : Shared}
/-- seen from within a suite -/
theorem Aloft.within (A : Aloft X pins σ H cls d a B sI s) (hs : X.stack = X.env :: X.outer) (hf : X.env.frame = some X.env.locals) :
    ∃ oe, s.heap.get? a = some oe ∧ Zc cls d oe ∧ (∃ vs, oe.data = .fields vs) ∧ Inv X pins σ H s ∧ Inv (X.suite a ((a, oe) :: (X.pn ++ pins))) [] σ H s := by
  obtain ⟨oe, vs, h1, h2, h3⟩ := A.fl.there
  have J : Inv X pins σ H s := A.inv.landed A.nb A.fl.1 A.up A.os A.ag
  have out : a ∉ frs X.stack := fun hm => by
    obtain ⟨_, o, ho, hn⟩ := A.fl.2.2.1.mem hm
    rw [h1] at ho
    cases ho
    exact hn _ h3
  rw [hs] at out
  refine ⟨oe, h1, h2, ⟨vs, h3⟩, J, J.suite h1 h3 A.na (fun z => out ?_) (fun hm => out ?_)⟩
  · exact List.mem_filterMap.mpr ⟨X.env, List.mem_cons_self, by rw [hf, z]⟩
  · obtain ⟨e, he, q⟩ := List.mem_filterMap.mp hm
    exact List.mem_filterMap.mpr ⟨e, List.mem_cons_of_mem _ he, q⟩
/-- no clause is left -/
theorem Aloft.pass {Wout : WX} {Q : Flow → Shared → Prop} (A : Aloft X pins σ H cls d a B sI s) (hs : X.stack = X.env :: X.outer) (hf : X.env.frame = some X.env.locals) (tk : Takes X Wout) (w : Wout cls d σ H) :
    wpAny (model X.prog X.w) X.A (handleBy (.ref a) X.env []) Q X.xe s := by
  have fl := A.fl
  obtain ⟨_, _, _, oe, vs, T, oT, ts, h1, h2, h3, h4, _⟩ := id fl
  refine wpAny_handleBy_nil ?_
  unfold PySem.passOn
  refine wpAny_bind (wpAny_field h1 h3 h4 ?_)
  rw [if_neg (show ¬ ((Value.ref T == Value.none) = true) from by simp)]
  have last : wpAny (model X.prog X.w) X.A (setFlight (.ref a) X.env.frame) (fun _ s4 => wpAny (model X.prog X.w) X.A (throw (.ref a) : Sem Flow) Q X.xe s4) X.xe s := by
    rw [hf]
    rw [hs] at fl
    exact HandSPX.setFlight_upZ fl fun h4 hh up => wpAny_throw (tk _ _ ⟨a, B, sI, pins, σ, H, cls, d, rfl, A.inv, A.nb, A.up.trans up, .inr (.inr (by rw [hs]; exact hh)), A.na, A.os, A.ag, w⟩)
  first
    | exact wpAny_bind (wpAny_pure (wpAny_bind last))
    | exact wpAny_bind last
/-- the clauses, one after the other -/
theorem Aloft.go {Wout : WX} {D : Ends} (A : Aloft X pins σ H cls d a B sI s) (ok : X.Ok) (hN : X.N.Nodup) (hs : X.stack = X.env :: X.outer) (hf : X.env.frame = some X.env.locals) (tk : Takes X Wout) {hds : List ExceptHandler} {l : List Cla}
    (hk : HdsA X hds l) : wManyA X.K Wout D l cls d σ H → wpAny (model X.prog X.w) X.A (handleBy (.ref a) X.env hds) (SP X pins D) X.xe s := by
  obtain ⟨oe, h1, h2, _, J, S⟩ := A.within hs hf
  have ask : ∀ {x : Str} {c : Value} {np : Pos} {Q : Value → Shared → Prop} {E : Value → Shared → Prop}, Names X x c → Q c s → wpAny (model X.prog X.w) (X.A.mark (some (.ref a))) (eval (.Name x np) X.env) Q E s := fun {x c np Q E} hc q => by
    obtain ⟨hg, hd, hm | ⟨hm, hv, hn⟩⟩ := hc
    · exact ld_glob (X := X.suite a ((a, oe) :: (X.pn ++ pins))) S hg hm q hd
    · exact ld_blt (X := X.suite a ((a, oe) :: (X.pn ++ pins))) S hg hm hv q hn hd
  have kind : PySem.W.Looks (model X.prog X.w) s.heap (typeOf (.ref a)) cls := fun A Q E s k q => wpAny_typeOf_ref (k _ _ h1) (by rw [h2.1]; exact q)
  induction hk with
  | nil => exact fun w => A.pass hs hf tk w
  | @plain x c ts b₀ su np p hds l hc hsu r ih =>
    rintro ⟨b, hb, yes, no⟩
    refine wpAny_handleBy_cons (codeAny_handlers_test ?_) (by intro q; cases q)
    refine ask hc ((PySem.W.exm_one (M := model X.prog X.w) J.kIn kind hb).here ?_)
    cases b with
    | false => exact ih (no rfl)
    | true =>
      refine codeAny_handlers_suite ?_
      have fl := A.fl
      rw [hs] at fl
      refine HandSPX.lands_againZ fl fun h4 fl4 up4 => ?_
      have A4 : Aloft X pins σ H cls d a B sI { s with heap := h4 } := ⟨A.inv, A.nb, A.up.trans up4, by rw [hs]; exact fl4, A.na, A.os, A.ag⟩
      obtain ⟨oe4, _, z4, f4, _, S4⟩ := A4.within hs hf
      refine wpAny_mono ((hsu a oe4 cls d _ z4 f4).run [] _ _ H _ S4 (yes rfl a A.na)) (fun f s6 hsp => ?_) (fun _ _ z => False.elim z)
      cases f with
      | ret u => obtain ⟨v, σ6, H6, S6, r6, q⟩ := hsp; exact ⟨v, σ6, H6, S6.unsuite ok, r6, q⟩
      | next => obtain ⟨σ6, H6, S6, q⟩ := hsp; exact ⟨σ6, H6, S6.unsuite ok, q⟩
      | brk => obtain ⟨σ6, H6, S6, q⟩ := hsp; exact ⟨σ6, H6, S6.unsuite ok, q⟩
      | cont => obtain ⟨σ6, H6, S6, q⟩ := hsp; exact ⟨σ6, H6, S6.unsuite ok, q⟩
  | @as_ x n i c ts b₀ su np p hds l hc hi hln hsu r ih =>
    rintro ⟨b, hb, yes, no⟩
    refine wpAny_handleBy_cons (codeAny_handlers_test ?_) (by intro q; cases q)
    refine ask hc ((PySem.W.exm_one (M := model X.prog X.w) J.kIn kind hb).here ?_)
    cases b with
    | false => exact ih (no rfl)
    | true =>
      refine codeAny_handlers_suite_as ?_
      have fl := A.fl
      rw [hs] at fl
      refine HandSPX.lands_againZ fl fun h4 fl4 up4 => ?_
      have A4 : Aloft X pins σ H cls d a B sI { s with heap := h4 } := ⟨A.inv, A.nb, A.up.trans up4, by rw [hs]; exact fl4, A.na, A.os, A.ag⟩
      obtain ⟨oe4, _, z4, f4, _, S4⟩ := A4.within hs hf
      refine store_ok (X := X.suite a ((a, oe4) :: (X.pn ++ pins))) (v := .ref a) S4 hN hi (.inl hln) rfl (fun s5 S5 => ?_) (.inr hln)
      refine wpAny_mono ((hsu a oe4 cls d _ z4 f4).run [] s5 _ H _ S5 (yes rfl a A.na)) (fun f s6 hsp => ?_) (fun _ _ z => False.elim z)
      have off : ∀ {σ6 : L2.St} {H6 : Hp} {Q : Shared → Prop}, Inv (X.suite a ((a, oe4) :: (X.pn ++ pins))) [] σ6 H6 s6 → (∀ s7, Inv X pins (σ6.set i none) H6 s7 → Q s7) →
          wpAny (model X.prog X.w) X.A (do bindName X.env n .none; unbindBehindTheSuite X.env n p) (fun _ s7 => Q s7) X.xe s6 := fun S6 k => gone_ok (S6.unsuite ok) hN hi hln k
      cases f with
      | ret u => obtain ⟨v, σ6, H6, S6, r6, q⟩ := hsp; exact off S6 fun s7 J7 => ⟨v, _, H6, J7, r6, q⟩
      | next => obtain ⟨σ6, H6, S6, q⟩ := hsp; exact off S6 fun s7 J7 => ⟨_, H6, J7, q⟩
      | brk => obtain ⟨σ6, H6, S6, q⟩ := hsp; exact off S6 fun s7 J7 => ⟨_, H6, J7, q⟩
      | cont => obtain ⟨σ6, H6, S6, q⟩ := hsp; exact off S6 fun s7 J7 => ⟨_, H6, J7, q⟩
end
section
variable {X : Cx} {body : List Stmt} {h₀ : ExceptHandler} {hds : List ExceptHandler} {l : List Cla} {pos : Pos} {tb : WX → TS} {Wout : WX}
theorem ps_tryA (hN : X.N.Nodup) (hs : X.stack = X.env :: X.outer) (hf : X.env.frame = some X.env.locals) (tk : Takes X Wout)
    (hb : ∀ (W : WX) (pn : List (Addr × Obj)) (xe : Value → Shared → Prop), Takes (X.tr pn xe) W → PassesOwn (model X.prog X.w) X.A X.env xe → PSs (X.tr pn xe) body (tb W))
    (hh : HdsA X (h₀ :: hds) l) : PS X (.Try body (h₀ :: hds) [] [] pos) (fun D σ H => tb (wManyA X.K Wout D l) D σ H) := by
  refine ⟨fun pins s σ H D I h => wpAny_Try_except ?_⟩
  have ok := I.ok
  refine wpAny_mono ((hb _ (X.pn ++ pins) (fun e s₁ => wpAny (model X.prog X.w) X.A (noteFrame e X.env) (fun _ s₂ => wpAny (model X.prog X.w) X.A (setFlight e none) (fun _ s₃ =>
    wpAny (model X.prog X.w) X.A (handleBy e X.env (h₀ :: hds)) (SP X pins D) X.xe s₃) X.xe s₂) X.xe s₁) (fun u s' xx => ?_) PassesOwn.looking).run [] s σ H D (I.toTry _) h) (fun f s1 hsp => ?_) (fun e s1 he => he)
  · obtain ⟨a, B, sI, pins', σ', H', cls, d, rfl, J, nb, up, sky, na, os, ag, w⟩ := xx
    have sky' : Sky B (X.env :: X.outer) a (Zc cls d) X.env.locals s'.heap := by rw [← hs]; exact sky
    refine Sky.land Zc.steady (by rw [ok.frames, hs]) hf sky' fun h3 fl3 up3 => ?_
    exact Aloft.go (s := { s' with heap := h3 }) ⟨J.ofTry ok, nb, up.trans up3, by rw [hs]; exact fl3, na, os, ag⟩ ok hN hs hf tk hh w
  · cases f with
    | ret u => obtain ⟨v, σ', H', J, r, q⟩ := hsp; exact ⟨v, σ', H', J.ofTry ok, r, q⟩
    | next => obtain ⟨σ', H', J, q⟩ := hsp; exact wpAny_execs_nil ⟨σ', H', J.ofTry ok, q⟩
    | brk => obtain ⟨σ', H', J, q⟩ := hsp; exact ⟨σ', H', J.ofTry ok, q⟩
    | cont => obtain ⟨σ', H', J, q⟩ := hsp; exact ⟨σ', H', J.ofTry ok, q⟩
end
end L2

/-! the hook with own exceptions -/
namespace Sim
open PySem PySem.Spec PyProof.Rows L2 Evl
/-- the property f of the class C, its place, its getter -/
def prP (K : PySem.W.Frag) (C f : Str) : Addr := He.ma K (He.ga K C) f
def wrG (K : PySem.W.Frag) (k : String) (C f : Str) : Addr := match PySem.W.recIn K (prP K C f) k with
  | some (.ref g :: _) => g
  | _ => 0
abbrev prG (K : PySem.W.Frag) (C f : Str) : Addr := wrG K "property" C f
/-- a static method m of the class C -/
structure StatOf (K : PySem.W.Frag) (C : Addr) (m : Str) (p g : Addr) : Prop where
  ga : PySem.W.specialIn K (.ref C) "__getattribute__" = some (some (.builtin "type.__getattribute__"))
  ty : PySem.W.typeIn K (.ref C) = some (.type "type")
  rd : PySem.W.readsIn K C (.type "type") = true
  at_ : PySem.W.findCls K (.ref C) (.type "type") m = some (.get (.builtin "staticmethod.__get__") (.ref p) .none (.ref C))
  rc : ∃ rest, PySem.W.recIn K p "staticmethod" = some (.ref g :: rest)
  hd : PySem.W.handedIn (.ref g) = true
def statB (C f : Str) (K : PySem.W.Frag) : Bool := decide (PySem.W.specialIn K (.ref (He.ga K C)) "__getattribute__" = some (some (.builtin "type.__getattribute__"))) && (decide (PySem.W.typeIn K (.ref (He.ga K C)) = some (.type "type")) &&
  (PySem.W.readsIn K (He.ga K C) (.type "type") && ((match PySem.W.findCls K (.ref (He.ga K C)) (.type "type") f with
    | some (.get (.builtin n) (.ref p) .none (.ref D)) => n == "staticmethod.__get__" && (p == prP K C f && D == He.ga K C)
    | _ => false) && (match PySem.W.recIn K (prP K C f) "staticmethod" with
    | some (.ref g :: _) => PySem.W.handedIn (.ref g)
    | _ => false))))
theorem statB_ok {C f : Str} {K : PySem.W.Frag} (h : statB C f K = true) : StatOf K (He.ga K C) f (prP K C f) (wrG K "staticmethod" C f) := by
  obtain ⟨h1, h⟩ := He.ba h
  obtain ⟨h2, h⟩ := He.ba h
  obtain ⟨h3, h⟩ := He.ba h
  obtain ⟨h4, h5⟩ := He.ba h
  have h4' : PySem.W.findCls K (.ref (He.ga K C)) (.type "type") f = some (.get (.builtin "staticmethod.__get__") (.ref (prP K C f)) .none (.ref (He.ga K C))) := by
    split at h4
    · rename_i n p D e
      simp only [Bool.and_eq_true, beq_iff_eq] at h4
      obtain ⟨rfl, rfl, rfl⟩ := h4
      exact e
    · cases h4
  unfold wrG
  cases e : PySem.W.recIn K (prP K C f) "staticmethod" with
  | none => rw [e] at h5; cases h5
  | some l =>
    rw [e] at h5
    cases l with
    | nil => cases h5
    | cons v r =>
      cases v with
      | ref g => exact ⟨of_decide_eq_true h1, of_decide_eq_true h2, h3, h4', ⟨r, e⟩, h5⟩
      | _ => cases h5
def propB (C f : Str) (K : PySem.W.Frag) : Bool := decide (PySem.W.findIn K (.ref (He.ga K C)) f = some (some (.ref (prP K C f)))) && (decide (PySem.W.specialIn K (.ref (prP K C f)) "__get__" = some (some (.builtin "property.__get__"))) &&
  (decide (PySem.W.takesIn K (.ref (prP K C f)) = some true) && (match PySem.W.recIn K (prP K C f) "property" with
    | some (.ref _ :: _) => true
    | _ => false)))
theorem propB_ok {C f : Str} {K : PySem.W.Frag} (h : propB C f K = true) : PropOf K (He.ga K C) f (prP K C f) (prG K C f) := by
  obtain ⟨h1, h⟩ := He.ba h
  obtain ⟨h2, h⟩ := He.ba h
  obtain ⟨h3, h4⟩ := He.ba h
  refine ⟨of_decide_eq_true h1, of_decide_eq_true h2, of_decide_eq_true h3, ?_⟩
  unfold prG wrG
  cases e : PySem.W.recIn K (prP K C f) "property" with
  | none => rw [e] at h4; cases h4
  | some l =>
    rw [e] at h4
    cases l with
    | nil => cases h4
    | cons v r =>
      cases v with
      | ref g => exact ⟨r, rfl⟩
      | _ => cases h4
/-- a property's getter: a def -/
structure GeD where
  kind : String
  cls : Str
  prop : Str
  qual : Str
  params : Arguments
  body : List Stmt
  scope : Scope
def fnG (K : PySem.W.Frag) (k : String) (C f : Str) : He.FnW := match K.lookup (wrG K k C f) with
  | some ⟨_, _, .func fd, _⟩ => some (fd.name, fd.qualname, fd.params, fd.body, fd.scope, fd.globals, fd.closure, fd.builtins)
  | _ => none
def GeD.val (d : GeD) : He.FnW := some (d.prop, d.qual, d.params, .stmts d.body, d.scope, mainGlobals, [], builtinsNs)
def GeD.ok (K : PySem.W.Frag) (d : GeD) : Bool := (bif d.kind == "property" then propB d.cls d.prop K else statB d.cls d.prop K) && (PySem.W.keepIn K (.ref (wrG K d.kind d.cls d.prop)) && (match K.lookup (wrG K d.kind d.cls d.prop) with
  | some ⟨_, _, .func fd, _⟩ => PySem.W.codeIn K fd.code d.qual && (He.dflB K fd.defaults [] && He.kwdB K fd.kwdefaults [])
  | _ => false))
theorem GeD.funD {K : PySem.W.Frag} {d : GeD} (e : fnG K d.kind d.cls d.prop = d.val) (c : d.ok K = true) : ∃ fd, FunD K d.prop d.qual d.params d.body d.scope [] [] (wrG K d.kind d.cls d.prop) fd := by
  obtain ⟨_, c⟩ := He.ba c
  obtain ⟨kp, c2⟩ := He.ba c
  unfold fnG at e
  cases q : K.lookup (wrG K d.kind d.cls d.prop) with
  | none => rw [q] at c2; cases c2
  | some o =>
    obtain ⟨oc, od, dt, osl⟩ := o
    rw [q] at c2 e
    cases dt with
    | func fd =>
      obtain ⟨n1, n2, n3, n4, n5, n6, n7, n8, n9, n10, n11, n12, n13, n14, n15⟩ := fd
      have e2 : (some (n1, n2, n3, n4, n5, n6, n7, n15) : He.FnW) = (some (d.prop, d.qual, d.params, .stmts d.body, d.scope, mainGlobals, [], builtinsNs) : He.FnW) := e
      simp only [Option.some.injEq, Prod.mk.injEq] at e2
      obtain ⟨h1, h2, h3, h4, h5, h6, h7, h8⟩ := e2
      subst h1 h2 h3 h4 h5 h6 h7 h8
      obtain ⟨k1, k2⟩ := He.ba (show (PySem.W.codeIn K n13 d.qual && (He.dflB K n8 [] && He.kwdB K n9 [])) = true from c2)
      obtain ⟨k3, k4⟩ := He.ba k2
      exact ⟨_, ⟨oc, od, n8, n9, n10, n11, n12, n13, n14, osl, rfl, q, k1, He.dflB_ok k3, He.kwdB_ok k4⟩, kp⟩
    | _ => cases c2
abbrev AlX : Type := He.AlD × Bool × List FnY × List He.FnW
def obsX (fa : List He.Fa) (fn : List He.DefD) (ex : List (PySem.W.Frag → Bool)) (xs : List XcD) (gs : List GeD) (file : Str) (K : PySem.W.Frag) : AlX := (He.obsD fa fn K, (ex.all fun e => e K) && ((xs.all fun d => d.ok K file) && gs.all fun d => d.ok K), (xs.map fun d => fnY K d.cls), gs.map fun d => fnG K d.kind d.cls d.prop)
def obsXG (n : Nat) (fa : List He.Fa) (fn : List He.DefD) (ex : List (PySem.W.Frag → Bool)) (xs : List XcD) (gs : List GeD) (file : Str) (g : Addr → Option Obj) : AlX := obsX fa fn ex xs gs file (He.frG g (cStatics :: He.asD g n))
structure SaysX (fa : List He.Fa) (fn : List He.DefD) (ex : List (PySem.W.Frag → Bool)) (xs : List XcD) (gs : List GeD) (file : Str) (K : PySem.W.Frag) : Prop where
  d : He.SaysD fa fn K
  x : ((ex.all fun e => e K) && ((xs.all fun d => d.ok K file) && gs.all fun d => d.ok K)) = true
  y : (xs.map fun d => fnY K d.cls) = xs.map XcD.val
  g : (gs.map fun d => fnG K d.kind d.cls d.prop) = gs.map GeD.val
def hookX (n : Nat) (fa : List He.Fa) (fn : List He.DefD) (ex : List (PySem.W.Frag → Bool)) (xs : List XcD) (gs : List GeD) (file : Str) : PySem.W.Hook where
  α := AlX
  obs := fun s => obsXG n fa fn ex xs gs file s.heap.get?
  val := fun _ => (He.valD fn, true, xs.map XcD.val, gs.map GeD.val)
  says := fun _ h => ∃ K : PySem.W.Frag, K.In h ∧ SaysX fa fn ex xs gs file K
  of := fun _ _ e => ⟨_, He.frG_in, congrArg (fun z : AlX => z.1) e, congrArg (fun z : AlX => z.2.1) e, congrArg (fun z : AlX => z.2.2.1) e, congrArg (fun z : AlX => z.2.2.2) e⟩
  keeps := fun _ _ _ ⟨K, hK, c⟩ k => ⟨K, PySem.W.Frag.In.keeps hK k, c⟩
theorem obsXG_eq {n : Nat} {fa : List He.Fa} {fn : List He.DefD} {ex : List (PySem.W.Frag → Bool)} {xs : List XcD} {gs : List GeD} {file : Str} {g : Addr → Option Obj} {s : Shared} (h : ∀ a, g a = s.heap.get? a) : obsXG n fa fn ex xs gs file g = (hookX n fa fn ex xs gs file).obs s := by
  have e : g = s.heap.get? := funext h
  rw [e] <;> rfl
structure TxX (fa : List He.Fa) (fn : List He.DefD) (es : List (PySem.W.Frag → Bool)) (xs : List XcD) (gs : List GeD) (file : Str) (K : PySem.W.Frag) (mg : Str → Option Value) : Prop extends TxE fa fn es K mg where
  xo : (xs.all fun d => d.ok K file) = true
  xv : (xs.map fun d => fnY K d.cls) = xs.map XcD.val
  go : (gs.all fun d => d.ok K) = true
  gv : (gs.map fun d => fnG K d.kind d.cls d.prop) = gs.map GeD.val
section
variable {fa : List He.Fa} {fn : List He.DefD} {es : List (PySem.W.Frag → Bool)} {xs : List XcD} {gs : List GeD} {file : Str} {K : PySem.W.Frag} {mg : Str → Option Value}
theorem TxX.mk' {h : Heap} (KX : K.In h) (G : h.Ns mainGlobals mg) (c : SaysX fa fn es xs gs file K) : TxX fa fn es xs gs file K mg := by
  obtain ⟨h1, h2⟩ := He.ba c.x
  obtain ⟨h2, h3⟩ := He.ba h2
  exact ⟨⟨⟨⟨h, KX, G⟩, c.d⟩, h1⟩, h2, c.y, h3, c.g⟩
theorem TxX.xc (T : TxX fa fn es xs gs file K mg) (i : Nat) {d : XcD} (h : xs[i]? = some d) : fnY K d.cls = d.val ∧ d.ok K file = true := by
  have e2 : (xs.map fun d => fnY K d.cls)[i]? = (xs.map XcD.val)[i]? := by rw [T.xv]
  rw [List.getElem?_map, List.getElem?_map, h] at e2
  exact ⟨Option.some.inj e2, List.all_eq_true.mp T.xo d (List.mem_of_getElem? h)⟩
theorem TxX.ge (T : TxX fa fn es xs gs file K mg) (i : Nat) {d : GeD} (h : gs[i]? = some d) : (d.kind = "property" → PropOf K (He.ga K d.cls) d.prop (prP K d.cls d.prop) (prG K d.cls d.prop)) ∧ (d.kind = "staticmethod" → StatOf K (He.ga K d.cls) d.prop (prP K d.cls d.prop) (wrG K "staticmethod" d.cls d.prop) ∧ PySem.W.keepIn K (.ref (wrG K d.kind d.cls d.prop)) = true) ∧ ∃ fd, FunD K d.prop d.qual d.params d.body d.scope [] [] (wrG K d.kind d.cls d.prop) fd := by
  have e2 : (gs.map fun d => fnG K d.kind d.cls d.prop)[i]? = (gs.map GeD.val)[i]? := by rw [T.gv]
  rw [List.getElem?_map, List.getElem?_map, h] at e2
  have o := List.all_eq_true.mp T.go d (List.mem_of_getElem? h)
  have o1 := (He.ba o).1
  refine ⟨fun e => ?_, fun e => ⟨?_, (He.ba (He.ba o).2).1⟩, GeD.funD (Option.some.inj e2) o⟩
  · rw [e] at o1; exact propB_ok o1
  · rw [e] at o1
    exact statB_ok o1
end
/-- further Bools: fields of an exception, isinstance of it, a property -/
def noB (C f : Str) (K : PySem.W.Frag) : Bool := decide (PySem.W.findIn K (.ref (He.ga K C)) f = some none)
theorem noB_ok {C f : Str} {K : PySem.W.Frag} (h : noB C f K = true) : PySem.W.findIn K (.ref (He.ga K C)) f = some none := of_decide_eq_true h
def xfB' (C : Str) (K : PySem.W.Frag) : Bool := xfB K (He.ga K C)
theorem xfB'_ok {C : Str} {K : PySem.W.Frag} (h : xfB' C K = true) : XfC K (He.ga K C) := xfB_ok h
def exmB (C D : Str) (b : Bool) (K : PySem.W.Frag) : Bool := decide (PySem.W.exmOne K (.ref (He.ga K C)) (.ref (He.ga K D)) = some b)
theorem exmB_ok {C D : Str} {b : Bool} {K : PySem.W.Frag} (h : exmB C D b K = true) : PySem.W.exmOne K (.ref (He.ga K C)) (.ref (He.ga K D)) = some b := of_decide_eq_true h
end Sim

/-! isinstance of a caught exception that has fields; properties -/
namespace PySem.W
open PySem PySem.Calls PyProof.Rows PySem.Spec
section
variable {prog : Program} {w : World} {A : Around} {E : Value → Shared → Prop} {s : Shared} {K : Frag} {x D : Addr} {ox : Obj} {od : Obj}
theorem exc_class {Q : Option Value → Shared → Prop} (C : L2.ExcC K D) (X : K.In s.heap) (I : InstAt s.heap x ox D (some od)) (h : Q (some (.ref D)) { s with toks := s.toks + 1 }) : wpAny (model prog w) A (getAttr? (.ref x) "__class__") Q E s := by
  have hf : findObj K D (some od) "__class__" = some (.bind (.builtin "getset_descriptor.__get__") (.builtin "object.__class__")) := findObj_data (by obtain ⟨cd, hc, _⟩ := any_some C.hd; rw [hc]; rfl) C.ha C.hn C.ht
  obtain ⟨hp, g, d, t, os⟩ := s
  have ty := I.type (M := model prog w)
  have ne : (Value.builtin "BaseException.__getattribute__" == Value.builtin "object.__getattribute__") = false := by decide +kernel
  unfold getAttr? getAttrBy? getAttrBy
  refine wpAny_bind (wpAny_mkText (wpAny_bind (wpAny_attempt (wpAny_holding (wpAny_bind (ty.at (wpAny_bind ((looks_findIn (M := model prog w) X C.hg).at ?_))))))))
  refine KFB.if_not (by rw [ne]; rfl) ?_
  unfold getAttrByItsOwn hookBefore callGetattribute boundAndCalled
  refine wpAny_bind (KFB.if_so rfl ((looks_findIn (M := model prog w) X C.hk).at ?_))
  refine wpAny_bind (wpAny_attempt (wpAny_holding (KFB.if_not rfl ?_)))
  rw [PySem.F.excAttr_ValueError.ga.bind (.ref x)]
  refine wpAny_bind (wpAny_pure ?_)
  show wpAny _ _ (call (.builtin "BaseException.__getattribute__") [.ref x, .str "__class__" t]) _ _ _
  refine wpAny_call (codeAny_call_builtin PySem.F.excAttr_ValueError.ga.plain PySem.F.entry_bexc_ga ?_)
  refine @check_slot (model prog w) _ _ ⟨hp, g, d, t + 1, os⟩ "BaseException.__getattribute__" "BaseException" "__getattribute__" (.ref x) [.str "__class__" t] [] _ (by decide +kernel) (by decide +kernel) (ty.andThen (looks_subIn X C.hs)) (PySem.F.args_bexc_ga (.ref x) (.str "__class__" t)) ?_
  unfold Builtin.«object.__getattribute__»
  refine wpAny_bind (wpAny_of_eq (a := ((Value.ref x : Value), [Value.str "__class__" t])) (by first | rfl | (simp only [slotArgs]; rfl)) ?_)
  refine wpAny_bind (wpAny_pure (wpAny_bind (ty.at (wpAny_bind ((looks_find (M := model prog w) X I hf).at ?_)))))
  refine wpAny_bind (wpAny_holding (wpAny_call (class_get (s := ⟨hp, g, d, t + 1, os⟩) (ox := ox) (od := some od) X I C.hm ?_)))
  refine wpAny_pure ?_
  show wpAny _ _ (handedOut (.ref D)) _ _ _
  rw [handedOut_of (v := .ref D) rfl]
  first
    | exact wpAny_pure (wpAny_pure h)
    | exact wpAny_pure h
    | exact wpAny_pure (wpAny_bind (wpAny_pure (wpAny_pure h)))
end
end PySem.W
namespace L2
open PySem PySem.Spec PyProof.Rows
/-- isinstance(e, c), e the caught exception, its dict at dd -/
def rIsX (K : PySem.W.Frag) (D a dd : Addr) : List V → Hp → VK → Prop := fun xs H Q => ∃ (c : V) (cv : Value) (b : Bool) (fs : List (Str × V)), xs = [.ref a, c] ∧ (∀ u, RelV c u → u = cv) ∧ PySem.W.kitOne K (.ref D) cv = some b ∧ H dd = some (.xd fs) ∧ Q (.bl b) H
theorem call_isX {X : Cx} {a D dd : Addr} {oe : Obj} {pn : List (Addr × Obj)} (C : ExcC X.K D) (hz : Zc (.ref D) (some dd) oe) (hf : ∃ vs, oe.data = .fields vs) : CallR (X.suite a ((a, oe) :: pn)) (.builtin "isinstance") (rIsX X.K D a dd) := by
  intro pins s σ H xs us Q I r h
  obtain ⟨c, cv, b, fs, rfl, hcv, e, hd, q⟩ := h
  cases r with
  | cons rx rr =>
    cases rr with
    | cons rt rr =>
      cases rr
      cases rx
      have ec := hcv _ rt
      subst ec
      obtain ⟨hget, _⟩ := I.pin (a, oe) (List.mem_append.mpr (.inl List.mem_cons_self))
      obtain ⟨vs, hv⟩ := hf
      obtain ⟨mA, hns, _⟩ : ObjOk X.prog X.w H s.heap dd (.xd fs) := I.hok dd _ hd
      obtain ⟨od, ho, _⟩ := lookIn_ns hns
      have J : PySem.W.InstAt s.heap a oe D (some od) := ⟨hget, hz.1, by unfold PySem.W.notCls; rw [hv] <;> rfl, by rw [hz.2]; exact ho⟩
      have Z : PySem.W.KitX X.K (.ref a) (.ref D) (fun h => PySem.W.InstAt h a oe D (some od)) := {
        ty := fun _ _ _ I => I.type
        it := (fun _ _ Y _ => by
          obtain ⟨cd, hc, _⟩ := PySem.W.any_some C.hd
          unfold PySem.W.clsIn at hc
          split at hc
          · rename_i ho
            intro A' Q' E' s' k q
            unfold isType loadHead
            exact wpAny_bind (wpAny_loadPart (k _ _ (Y _ _ ho)) (wpAny_pure q))
          · cases hc)
        ne := (PySem.W.handS_kitx_exc (x := a) (ox := oe) C.hg C.hk C.hs C.hd C.ha C.hn C.ht C.hm).ne
        ca := fun Y I k => PySem.W.exc_class C Y I k }
      exact PySem.W.kia_one Z I.kIn J e (fun z => nomatch z) fun tk => ⟨.bl b, H, I.kept (t' := tk) fun _ _ z => z, rfl, q⟩
end L2
namespace Sim
open PySem PySem.Spec PyProof.Rows L2 Evl
section
variable {K : PySem.W.Frag} {σ : L2.St} {G H W : Hp} {to : TE} {ta : TA} {α γ : Type} {T : Rep γ}
/-- o.f, a property -/
theorem e_prop {C : Addr} {ns : List Str} {fl : α → List Pd} {m : Option α} {f : α × Unit → Option γ} {X : XK} (h : E to σ G W (rObj C ns fl) m) : E (tProp C (PF (aC (rObj C ns fl) aN) T f) [] X to) σ G W T (m >>= fun o => f (o, ())) := fun z hz H e e' Q q => by
  obtain ⟨x, hx, hz⟩ := bindS hz
  refine h x hx H e e' _ fun v H1 G1 u r => ?_
  obtain ⟨a, dx, fs, rfl, h2, h3⟩ := r
  refine ⟨a, dx, fs, rfl, u.gh a _ h2, ?_⟩
  exact ⟨G1, (x, ()), z, u.gh, ⟨.ref a, [], rfl, ⟨a, dx, fs, rfl, h2, h3⟩, rfl⟩, hz, fun v H4 G4 u4 r4 => q v H4 G4 (u.trans u4) r4⟩
/-- isinstance(e, X), e the caught exception -/
theorem rc_isX {a dd : Addr} {D : Addr} {c : V} {cv : Value} {b : Bool} {e : Xn} (hcv : ∀ u, RelV c u → u = cv) (hk : PySem.W.kitOne K (.ref D) cv = some b) (hx : Xat G e dd) {Q : VK} (he : Ex G H) (q : Q (.bl b) H) : rIsX K D a dd [.ref a, c] H Q := by
  obtain ⟨fs, h1, _⟩ := hx
  exact ⟨c, cv, b, fs, rfl, hcv, hk, he dd _ h1, q⟩
end
end Sim

namespace Sim
open PySem PySem.Spec PyProof.Rows L2 Evl
theorem look_app {α : Type} {f : Str} {x : α} : ∀ {l r : List (Str × α)}, (∀ y, (f, y) ∉ l) → (l ++ [(f, x)]).lookup f = some x
  | [], _, _ => by simp [List.lookup]
  | (g, y) :: l, r, h => by
    have hg : (f == g) = false := by
      rw [beq_eq_false_iff_ne]
      rintro rfl
      exact h y (List.mem_cons_self ..)
    rw [List.cons_append, List.lookup_cons, hg]
    exact look_app (r := r) fun z hz => h z (List.mem_cons_of_mem _ hz)
theorem look_app' {α : Type} {f g : Str} {x : α} (hne : f ≠ g) : ∀ {l : List (Str × α)} {y : α}, l.lookup f = some y → (l ++ [(g, x)]).lookup f = some y
  | [], _, h => by cases h
  | (k, z) :: l, y, h => by
    rw [List.cons_append, List.lookup_cons]
    rw [List.lookup_cons] at h
    cases e : (f == k) with
    | true => rw [e] at h; exact h
    | false => rw [e] at h; exact look_app' hne h
/-- the fields of a raised exception, from what its arguments tell -/
theorem look_rev {G : Hp} : ∀ {names : List Str} {vs : List V} {xs : List Xv} {f : Str} {x : Xv}, names.Nodup → Paired (rX.r G) vs xs → (names.zip xs).lookup f = some x → ∃ v, (names.zip vs).reverse.lookup f = some v ∧ rX.r G v x
  | [], vs, xs, f, x, _, _, h => by cases h
  | n :: names, [], xs, f, x, _, r, h => by cases r; cases h
  | n :: names, v :: vs, [], f, x, _, r, h => by cases r
  | n :: names, v :: vs, y :: xs, f, x, nd, r, h => by
    cases r with
    | cons r1 r2 =>
    obtain ⟨hn, nd⟩ := List.nodup_cons.mp nd
    rw [List.zip_cons_cons, List.lookup_cons] at h
    rw [List.zip_cons_cons, List.reverse_cons]
    cases e : (f == n) with
    | true =>
      rw [e] at h
      cases h
      have : f = n := eq_of_beq e
      subst this
      exact ⟨v, look_app (r := []) (fun z hz => hn (List.of_mem_zip (List.mem_reverse.mp hz)).1), r1⟩
    | false =>
      rw [e] at h
      obtain ⟨u, h1, h2⟩ := look_rev nd r2 h
      exact ⟨u, look_app' (beq_eq_false_iff_ne.mp e) h1, h2⟩
theorem Xat_mk {G : Hp} {d : Addr} {names : List Str} {vs : List V} {xs : List Xv} {cls : Str} (nd : names.Nodup) (hd : G d = some (.xd (names.zip vs).reverse)) (r : Paired (rX.r G) vs xs) : Xat G ⟨cls, names.zip xs⟩ d :=
  ⟨_, hd, fun f x h => look_rev nd r h⟩
end Sim

/-! a class made whose __init__ may raise; isinstance of whatever was caught; tables of exception classes -/
namespace L2
open PySem PySem.Spec PyProof.Rows
section
variable {X : Cx} {CX : CXT} {k : Nat} {f C : Addr} {fd : FuncData} {ps : List Str} {sp : Sp} {E : St → XK} {x m : Str} {p pos apos : Pos} {e o : Expr} {es : List Expr} {ta : TE} {t : TA}
/-- C(e, ..), what is raised wished for at the slots -/
def tMakeT (C : Addr) (sp : Sp) (E : St → XK) (t : TA) : TE := fun σ H Q => t σ H fun vs H1 => ∀ x dx, H1 x = none → H1 dx = none → dx ≠ x → sp (.ref x :: vs) (upd (upd H1 dx (.own x)) x (.ins C dx [])) (fun v H2 => v = .non ∧ Q (.ref x) H2) (E σ)
theorem run_makeT {pins : List (Addr × Obj)} {σ : St} {H : Hp} {s : Shared} {Q : VK} {us : List Value} {vs : List V} (M : Mk X.K C f) (F : FnOk X.prog X.w X.K X.mg X.base CX k f fd ps sp) (hr : Room (k + 1) X.A) (hb : Binds X.K fd ps [])
    (hx : PassesAt CX X σ (E σ)) (I : Inv X pins σ H s) (r : Vals vs us)
    (h : ∀ x dx, H x = none → H dx = none → dx ≠ x → sp (.ref x :: vs) (upd (upd H dx (.own x)) x (.ins C dx [])) (fun v H2 => v = .non ∧ Q (.ref x) H2) (E σ)) :
    wpAny (model X.prog X.w) X.A (call (.ref C) us) (EP X pins σ Q) X.xe s := by
  have hq := h (s.heap.objs.size + 1) s.heap.objs.size (I.hok.fresh (Nat.le_succ _)) (I.hok.fresh (Nat.le_refl _)) (Nat.ne_of_lt (Nat.lt_succ_self _))
  have I2 := Inv.made (C := C) I
  have r2 : Vals (V.ref (s.heap.objs.size + 1) :: vs) (Value.ref (s.heap.objs.size + 1) :: us) := .cons rfl r
  have hl : (Value.ref (s.heap.objs.size + 1) :: us).length = ps.length := by
    have e := r2.length
    rw [F.len _ _ _ _ hq] at e
    exact e.symm
  have b := hb s (Value.ref (s.heap.objs.size + 1) :: us) I.kIn (by rw [List.append_nil]; exact hl)
  have b2 := hb _ (Value.ref (s.heap.objs.size + 1) :: us) I2.kIn (by rw [List.append_nil]; exact hl)
  rw [List.append_nil] at b2
  refine wpAny_call (make_map (f := f) I.kIn M.makes M.init (beq_iff_eq.mp M.fn) (codeAny_mono (F.run _ X.stack _ _ ⟨Value.ref (s.heap.objs.size + 1) :: us, []⟩ (Value.ref (s.heap.objs.size + 1) :: us) _ _ (E σ) (hr.make C us [])
    (I2.env0.make C us []) b2 r2 hq) fun r s' hq' => ?_))
  cases r with
  | error e => exact hx pins _ _ e s' I2 hq'
  | ok fl =>
    cases fl with
    | ret u =>
      obtain ⟨v, H', I3, rv, ev, q3⟩ := I2.after hq'
      subst ev
      exact ⟨rv, ⟨V.ref (s.heap.objs.size + 1), H', I3, rfl, q3⟩⟩
    | next => exact False.elim hq'
    | brk => exact False.elim hq'
    | cont => exact False.elim hq'
theorem pe_makeT (M : Mk X.K C f) (F : FnOk X.prog X.w X.K X.mg X.base CX k f fd ps sp) (hr : Room (k + 1) X.A) (hg : Gl X x) (hm : X.mg x = some (.ref C)) (hb : Binds X.K fd ps []) (hx : ∀ σ, PassesAt CX X σ (E σ))
    (ha : PA X (e :: es) t) (hdb : (x == ("__debug__" : Str)) = false := by decide) (he : starEach (e :: es) X.env = (false, eval e X.env) :: starEach es X.env := by rfl) (hpl : (backTo pos (starEach es X.env)).any (·.1) = false := by rfl) :
    PE X (.Call (.Name x p) (e :: es) [] pos) (tMakeT C sp E t) := by
  refine ⟨fun pins s σ H Q I h => ?_⟩
  refine wpAny_Call_Name_kw (ld_glob I hg hm ?_ hdb)
  refine PySem.W.callWith_K (h₀ := X.base) I.ok.mod.kin M.kp (thn (ha.run pos pins s σ H _ I h) fun us s1 ⟨vs, H1, I1, r, q⟩ => ⟨I1.kIn, ?_⟩) he hpl
  exact run_makeT M F hr hb (hx σ) I1 r q
/-- nothing is raised here -/
theorem takes_no : Takes X (fun _ _ _ _ => False) := fun _ _ ⟨_, _, _, _, _, _, _, _, _, _, _, _, _, _, _, _, w⟩ => w.elim
end
/-- isinstance(e, c), e the caught exception, whatever its class -/
def rIsZ (K : PySem.W.Frag) (cls : Value) (d : Option Addr) (a : Addr) : List V → Hp → VK → Prop := fun xs H Q => ∃ (D dd : Addr) (c : V) (cv : Value) (b : Bool) (fs : List (Str × V)), cls = .ref D ∧ d = some dd ∧ ExcC K D ∧ xs = [.ref a, c] ∧ (∀ u, RelV c u → u = cv) ∧ PySem.W.kitOne K (.ref D) cv = some b ∧ H dd = some (.xd fs) ∧ Q (.bl b) H
theorem call_isZ {X : Cx} {a : Addr} {cls : Value} {d : Option Addr} {oe : Obj} {pn : List (Addr × Obj)} (hz : Zc cls d oe) (hf : ∃ vs, oe.data = .fields vs) : CallR (X.suite a ((a, oe) :: pn)) (.builtin "isinstance") (rIsZ X.K cls d a) := by
  intro pins s σ H xs us Q I r h
  obtain ⟨D, dd, c, cv, b, fs, rfl, rfl, hC, h⟩ := h
  exact call_isX hC hz hf pins s σ H xs us Q I r ⟨c, cv, b, fs, h⟩
/-- e.f, e the caught exception, whatever its class -/
def tXz (K : PySem.W.Frag) (a : Addr) (cls : Value) (d : Option Addr) (f : Str) (te : TE) : TE := fun σ H Q => te σ H fun x H1 => x = .ref a ∧ ∃ (C dd : Addr) (fs : List (Str × V)) (v : V), cls = .ref C ∧ XfC K C ∧ PySem.W.findIn K (.ref C) f = some none ∧ d = some dd ∧ H1 dd = some (.xd fs) ∧ fs.lookup f = some v ∧ Q v H1
theorem pe_xz {X : Cx} {a : Addr} {oe : Obj} {cls : Value} {d : Option Addr} {pn : List (Addr × Obj)} {e : Expr} {te : TE} {pos : Pos} {n : Str}
    (hz : Zc cls d oe) (hf : ∃ vs, oe.data = .fields vs) (he : PE (X.suite a ((a, oe) :: pn)) e te) (hb : attributeBase e n X.env (eval e X.env) = eval e X.env := by rfl) :
    PE (X.suite a ((a, oe) :: pn)) (.Attribute e n pos) (tXz X.K a cls d n te) := by
  refine ⟨fun pins s σ H Q I h => ?_⟩
  refine attr_of hb (thn (he.run pins s σ H _ I h) fun u s1 hh => ?_)
  obtain ⟨x, H1, I1, rx, ex, C, dd, fs, v, ec, T, hno, ed, ea, l, q⟩ := hh
  subst ex
  obtain rfl : u = Value.ref a := rx
  subst ec
  subst ed
  obtain ⟨ha, _⟩ := I1.pin (a, oe) (List.mem_append_left _ List.mem_cons_self)
  obtain ⟨vs, hd⟩ := hf
  have hx : ObjOk X.prog X.w H1 s1.heap dd (.xd fs) := I1.hok dd _ ea
  obtain ⟨mA, hns, hr⟩ := hx
  obtain ⟨od, ho, hl⟩ := lookIn_ns hns
  obtain ⟨u, hu, ru⟩ := RelO.some_of (v := v) (o := mA n) (by rw [← l]; exact hr n)
  have J : PySem.W.InstAt s1.heap a oe C (some od) := ⟨ha, hz.1, by unfold PySem.W.notCls; rw [hd] <;> rfl, by rw [hz.2]; exact ho⟩
  exact HandSPX.exc_get I1.kIn J T.ga T.gg T.exC (PySem.W.findObj_own T.hdC hno rfl (by rw [hl, hu])) (handed_of ru) ⟨v, H1, I1.tok _, ru, q⟩
end L2
namespace Sim
open PySem PySem.Spec PyProof.Rows L2 Evl
/-! tables: what the top's end says of the exception classes cs -/
def excCB (K : PySem.W.Frag) (D : Addr) : Bool := decide (PySem.W.findIn K (.ref D) "__getattribute__" = some (some (.builtin "BaseException.__getattribute__"))) && (decide (PySem.W.findIn K (.ref D) "__getattr__" = some none) &&
  (decide (PySem.W.subIn K (.ref D) (.type "BaseException") = some true) && (PySem.W.hasDictIn K D && (decide (PySem.W.findIn K (.ref D) "__class__" = some (some (.builtin "object.__class__"))) &&
  (decide (PySem.W.specialIn K (.builtin "object.__class__") "__get__" = some (some (.builtin "getset_descriptor.__get__"))) && (decide (PySem.W.takesIn K (.builtin "object.__class__") = some true) && decide (PySem.W.mroIn K D (.type "object") = some true)))))))
theorem excCB_ok {K : PySem.W.Frag} {D : Addr} (h : excCB K D = true) : ExcC K D := by
  obtain ⟨h1, h⟩ := He.ba h
  obtain ⟨h2, h⟩ := He.ba h
  obtain ⟨h3, h⟩ := He.ba h
  obtain ⟨h4, h⟩ := He.ba h
  obtain ⟨h5, h⟩ := He.ba h
  obtain ⟨h6, h⟩ := He.ba h
  obtain ⟨h7, h8⟩ := He.ba h
  exact ⟨of_decide_eq_true h1, of_decide_eq_true h2, of_decide_eq_true h3, h4, of_decide_eq_true h5, of_decide_eq_true h6, of_decide_eq_true h7, of_decide_eq_true h8⟩
/-- each of cs: an exception class that is told by its fields -/
def xsB (cs : List Str) (K : PySem.W.Frag) : Bool := cs.all fun C => excCB K (He.ga K C) && xfB K (He.ga K C)
/-- no attribute of these names in the classes -/
def xnB (cs : List Str) (fs : List Str) (K : PySem.W.Frag) : Bool := cs.all fun C => fs.all fun f => noB C f K
/-- for each of cs: the clause 'except D' -/
def xaB (cs : List Str) (D : Str) (b : Bool) (K : PySem.W.Frag) : Bool := cs.all fun C => exmB C D b K
def kiB (C : Str) (v : Value) (b : Bool) (K : PySem.W.Frag) : Bool := decide (PySem.W.kitOne K (.ref (He.ga K C)) v = some b)
/-- for each of cs: isinstance(e, D) -/
def xkB (cs : List Str) (D : Str) (ds : List Str) (K : PySem.W.Frag) : Bool := cs.all fun C => kiB C (.ref (He.ga K D)) (ds.contains C) K
def xkTB (cs : List Str) (D : String) (b : Bool) (K : PySem.W.Frag) : Bool := cs.all fun C => kiB C (.type D) b K
section
variable {K : PySem.W.Frag} {cs fs : List Str} {C D f : Str} {b : Bool}
theorem xs_ok (h : xsB cs K = true) (hC : cs.contains C = true) : ExcC K (He.ga K C) ∧ XfC K (He.ga K C) := by
  have := List.all_eq_true.mp h C (List.contains_iff_mem.mp hC)
  obtain ⟨h1, h2⟩ := He.ba this
  exact ⟨excCB_ok h1, xfB_ok h2⟩
theorem xn_ok (h : xnB cs fs K = true) (hC : cs.contains C = true) (hf : fs.contains f = true) : PySem.W.findIn K (.ref (He.ga K C)) f = some none :=
  noB_ok (List.all_eq_true.mp (List.all_eq_true.mp h C (List.contains_iff_mem.mp hC)) f (List.contains_iff_mem.mp hf))
theorem xa_ok (h : xaB cs D b K = true) (hC : cs.contains C = true) : PySem.W.exmOne K (.ref (He.ga K C)) (.ref (He.ga K D)) = some b := exmB_ok (List.all_eq_true.mp h C (List.contains_iff_mem.mp hC))
theorem xk_ok {ds : List Str} (h : xkB cs D ds K = true) (hC : cs.contains C = true) : PySem.W.kitOne K (.ref (He.ga K C)) (.ref (He.ga K D)) = some (ds.contains C) := of_decide_eq_true (List.all_eq_true.mp h C (List.contains_iff_mem.mp hC))
theorem xkT_ok {D : String} (h : xkTB cs D b K = true) (hC : cs.contains C = true) : PySem.W.kitOne K (.ref (He.ga K C)) (.type D) = some b := of_decide_eq_true (List.all_eq_true.mp h C (List.contains_iff_mem.mp hC))
end
theorem sumL {α β γ : Type} {f : α → Option γ} {g : β → Option γ} {e : α} {r : γ} (h : Sum.elim f g (Sum.inl e) = some r) : f e = some r := h
theorem sumR {α β γ : Type} {f : α → Option γ} {g : β → Option γ} {e : β} {r : γ} (h : Sum.elim f g (Sum.inr e) = some r) : g e = some r := h
theorem bifO {α : Type} {c : Bool} {a b : Option α} {r : α} (h : (bif c then a else b) = some r) : (c = true ∧ a = some r) ∨ (c = false ∧ b = some r) := by
  cases c with
  | true => exact Or.inl ⟨rfl, h⟩
  | false => exact Or.inr ⟨rfl, h⟩
section
variable {K : PySem.W.Frag} {σ : L2.St} {G H W G0 H0 G2 H2 : Hp} {ls : List Addr} {cs : Cs} {ta tb : TA} {to te tu : TE} {ι α β γ : Type} {A : AR ι} {R : Rep α} {S : Rep β} {T : Rep γ} {D : Ends} {l C : Addr} {ns : List Str} {fl : α → List Pd}
/-- the promise of an __init__ that may raise -/
def PXI (K : PySem.W.Frag) (C : Addr) (A : AR ι) (ns : List Str) (fl : α → List Pd) (f : ι → Option (Xn ⊕ α)) : Sp := fun vs H Q E => ∃ G x ws i r, vs = .ref x :: ws ∧ Wd G H [(x, cI C [] [])] ∧ A.r G ws i ∧ f i = some r ∧
  (∀ e, r = .inl e → ∀ d H2 G2, Fr G H G2 H2 [x] → Ex G2 H2 → Xat G2 e d → E (.ref (He.ga K e.cls)) (some d) H2) ∧
  (∀ o, r = .inr o → ∀ H2 G2, Fr G H G2 H2 [x] → Wd G2 H2 [(x, cI C ns (fl o))] → Q .non H2)
theorem ex_make {f : ι → Option (Xn ⊕ α)} {ta : TA} {mi : Option ι} {Wx : L2.St → XK} (ha : EA ta σ G W A mi) : EX K (tMakeT C (PXI K C A ns fl f) Wx ta) σ G W (rObj C ns fl) (mi >>= f) (Wx σ) := fun z hz H e e' Q qx q => by
  obtain ⟨i, hi, hz⟩ := bindS hz
  refine ha i hi H e e' _ fun vs H1 G1 u1 r1 => ?_
  intro x dx nx ndx ne
  have w1 : Wd G1 (upd (upd H1 dx (.own x)) x (.ins C dx [])) [(x, cI C [] [])] := new_ins u1.gh nx ndx ne
  have hh : ∀ {G2 H2 : Hp}, Fr G1 (upd (upd H1 dx (.own x)) x (.ins C dx [])) G2 H2 [x] → Ex H1 H2 := fun fr a o h => by
    have na : a ≠ x := ne_of_none h nx
    have nd : a ≠ dx := ne_of_none h ndx
    exact fr.fr a o (by rw [upd_ne na, upd_ne nd]; exact h) fun z => na (List.mem_singleton.mp z)
  have nn : ∀ {G2 H2 : Hp}, Fr G1 (upd (upd H1 dx (.own x)) x (.ins C dx [])) G2 H2 [x] → ∀ a, H1 a ≠ none → G1 a = none → a ≠ x ∧ G2 a = none := fun fr a h1 h2 => by
    have na : a ≠ x := fun z => by subst z; exact h1 nx
    have nd : a ≠ dx := fun z => by subst z; exact h1 ndx
    exact ⟨na, fr.nw a (by rw [upd_ne na, upd_ne nd]; exact h1) h2⟩
  refine ⟨G1, x, vs, i, z, rfl, w1, r1, hz, fun xn hx d H2 G2 fr ee xa => ?_, fun o ho H2 G2 fr w2 => ⟨rfl, ?_⟩⟩
  · exact qx xn hx d H2 G2 (u1.trans ⟨fr.gg, ee, hh fr, fun a h1 h2 => (nn fr a h1 h2).2⟩) xa
  · obtain ⟨G3, k1, k2, k3, dx', fs, k4, k5⟩ := ob_freeze w2
    exact q o ho _ H2 G3 (u1.trans ⟨fr.gg.trans k1, k2, hh fr, fun a h1 h2 => k3 a (nn fr a h1 h2).1 (nn fr a h1 h2).2⟩) ⟨x, dx', fs, rfl, k4, k5⟩
theorem Xat.upE {ls : List Addr} {e : Xn} {d : Addr} (h : Xat G e d) (x : Ex G G2) : Xat G2 e d := h.mono x
/-- what does not raise -/
theorem ex_e {m : Option α} {Wx : XK} (h : E te σ G W R m) : EX K te σ G W R (m >>= fun x => some (.inr x)) Wx := fun r hr H e e' Q qx q => by
  obtain ⟨x, hx, hr⟩ := bindS hr
  cases hr
  exact h x hx H e e' Q fun v H2 G2 u r => q x rfl v H2 G2 u r
/-- an operator, the first operand may raise -/
theorem ex_op {r : R2} {f : α → β → Option γ} {ma : Option (Xn ⊕ α)} {mb : Option β} {Wx : XK} (hr : RR r R S T f) (ha : EX K te σ G W R ma Wx) (hb : E tu σ G W S mb) :
    EX K (tOp r te tu) σ G W T (ma >>= Sum.elim (fun e => some (.inl e)) fun x => mb >>= fun y => f x y >>= fun z => some (.inr z)) Wx := fun z hz H e e' Q qx q => by
  obtain ⟨x, hx, hz⟩ := bindS hz
  refine ha x hx H e e' _ (fun xn hxn d H2 G2 u xa => ?_) fun x' hx' v H1 G1 u1 r1 => ?_
  · subst hxn
    cases hz
    exact qx xn rfl d H2 G2 u xa
  · subst hx'
    have hz : (mb >>= fun y => f x' y >>= fun z => some (.inr z)) = some z := hz
    obtain ⟨y, hy, hz⟩ := bindS hz
    obtain ⟨z', hz', hz⟩ := bindS hz
    cases hz
    refine (hb.mono u1.gg (e'.trans u1.hh)) y hy H1 u1.gh (Ex.refl _) _ fun w H2 G2 u2 r2 => ?_
    exact hr v w x' y z' H2 G2 (R.mono u2.gg r1) r2 hz' u2.gh Q fun u H3 G3 u3 r3 => q z' rfl u H3 G3 ((u1.trans u2).trans u3) r3
/-- isinstance(e, c) of the caught exception -/
theorem e_isZ {a d : Addr} {e : Xn} {i : Nat} {c : V} {cv : Value} {b : Bool} (hs : σ[i]? = some (some (.ref a))) (hx : Xat G e d) (hC : ExcC K (He.ga K e.cls)) (hcv : ∀ u, RelV c u → u = cv) (hk : PySem.W.kitOne K (.ref (He.ga K e.cls)) cv = some b) :
    E (tCB (rIsZ K (.ref (He.ga K e.cls)) (some d) a) (tCons (tVar i) (tCons (tC c) tNil))) σ G W rB (some b) := fun z hz H ee e' Q q => by
  cases hz
  obtain ⟨fs, h1, _⟩ := hx
  exact ⟨.ref a, hs, _, _, c, cv, _, fs, rfl, rfl, hC, rfl, hcv, hk, ee d _ h1, q _ H G (Up.refl ee) rfl⟩
def xI (e : Xn) (f : Str) : Option Int := e.fs.lookup f >>= fun x => match x with | .int y => some y | _ => none
def xS (e : Xn) (f : Str) : Option Str := e.fs.lookup f >>= fun x => match x with | .str y => some y | _ => none
/-- e.f of the caught exception -/
theorem e_xz {a d : Addr} {e : Xn} {f : Str} {i : Nat} (hs : σ[i]? = some (some (.ref a))) (hx : Xat G e d) (hC : XfC K (He.ga K e.cls)) (hno : PySem.W.findIn K (.ref (He.ga K e.cls)) f = some none) : E (tXz K a (.ref (He.ga K e.cls)) (some d) f (tVar i)) σ G W rI (xI e f) := fun z hz H ee e' Q q => by
  obtain ⟨x, hx1, hz⟩ := bindS hz
  cases x with
  | str _ => cases hz
  | int y =>
    cases hz
    obtain ⟨fs, h1, h2⟩ := hx
    obtain ⟨v, h3, h4⟩ := h2 f _ hx1
    exact ⟨.ref a, hs, rfl, _, d, fs, v, rfl, hC, hno, rfl, ee d _ h1, h3, q v H G (Up.refl ee) h4⟩
theorem e_xzS {a d : Addr} {e : Xn} {f : Str} {i : Nat} (hs : σ[i]? = some (some (.ref a))) (hx : Xat G e d) (hC : XfC K (He.ga K e.cls)) (hno : PySem.W.findIn K (.ref (He.ga K e.cls)) f = some none) : E (tXz K a (.ref (He.ga K e.cls)) (some d) f (tVar i)) σ G W rS (xS e f) := fun z hz H ee e' Q q => by
  obtain ⟨x, hx1, hz⟩ := bindS hz
  cases x with
  | int _ => cases hz
  | str y =>
    cases hz
    obtain ⟨fs, h1, h2⟩ := hx
    obtain ⟨v, h3, h4⟩ := h2 f _ hx1
    exact ⟨.ref a, hs, rfl, _, d, fs, v, rfl, hC, hno, rfl, ee d _ h1, h3, q v H G (Up.refl ee) h4⟩
end
end Sim

/-! properties; == of further data; list + list; index; all, any -/
namespace Sim
open PySem PySem.Spec PyProof.Rows L2 Evl
def Fp (P : Program) (w : World) (K : PySem.W.Frag) (mg : Str → Option Value) (base : Heap) (CX : CXT) (k : Nat) (c m : Str) (ps : List Str) (sp : Sp) : Prop :=
  ∃ fd, FnOk P w K mg base CX k (prG K c m) fd ps sp ∧ Binds K fd ps []
theorem fp_mk {K : PySem.W.Frag} {mg : Str → Option Value} {P : Program} {w : World} {base : Heap} {CX : CXT} {k : Nat} {c m x qual : Str} {ps : List Str} {sp : Sp} {fd : FuncData} {params : Arguments} {body : List Stmt} {scope : Scope} (F : FunD K x qual params body scope [] [] (prG K c m) fd)
    (hb : ∀ (kV doc pm : Value) (an : Option Addr) (cdv ct : Value) (us : List Value), us.length = ps.length → bindArgs (PySem.W.fnOf x qual params body scope .none kV doc pm an cdv ct) ⟨us, []⟩ = pure (ps.zip us))
    (h : FnOk P w K mg base CX k (prG K c m) fd ps sp) : Fp P w K mg base CX k c m ps sp := ⟨fd, h, F.bindsN hb⟩
/-- a static method's def -/
def Fs (P : Program) (w : World) (K : PySem.W.Frag) (mg : Str → Option Value) (base : Heap) (CX : CXT) (k : Nat) (c m : Str) (ps : List Str) (sp : Sp) : Prop :=
  ∃ fd, FnOk P w K mg base CX k (wrG K "staticmethod" c m) fd ps sp ∧ Binds K fd ps []
theorem fs_mk {K : PySem.W.Frag} {mg : Str → Option Value} {P : Program} {w : World} {base : Heap} {CX : CXT} {k : Nat} {c m x qual : Str} {ps : List Str} {sp : Sp} {fd : FuncData} {params : Arguments} {body : List Stmt} {scope : Scope} (F : FunD K x qual params body scope [] [] (wrG K "staticmethod" c m) fd)
    (hb : ∀ (kV doc pm : Value) (an : Option Addr) (cdv ct : Value) (us : List Value), us.length = ps.length → bindArgs (PySem.W.fnOf x qual params body scope .none kV doc pm an cdv ct) ⟨us, []⟩ = pure (ps.zip us))
    (h : FnOk P w K mg base CX k (wrG K "staticmethod" c m) fd ps sp) : Fs P w K mg base CX k c m ps sp := ⟨fd, h, F.bindsN hb⟩
section
variable {K : PySem.W.Frag} {σ : L2.St} {G H W G' W' : Hp} {ta : TA} {te tu : TE} {ι α β γ : Type} {A : AR ι} {R : Rep α} {S : Rep β} {T : Rep γ}
theorem dtS : Dt rS PyData.str 0 := ⟨fun h => by rw [show _ = V.str _ from h]; exact .str _, fun _ => rfl, fun _ => Nat.le_refl _, fun x y => by simp [PyData.eqv]⟩
/-- never equal to None -/
class NoN (d : α → PyData) : Prop where
  ne : ∀ x, PyData.eqv .none (d x) = false ∧ PyData.eqv (d x) .none = false
instance : NoN PyData.int := ⟨fun x => ⟨by simp [PyData.eqv], by simp [PyData.eqv]⟩⟩
instance : NoN PyData.bool := ⟨fun x => ⟨by simp [PyData.eqv], by simp [PyData.eqv]⟩⟩
instance : NoN PyData.str := ⟨fun x => ⟨by simp [PyData.eqv], by simp [PyData.eqv]⟩⟩
instance {d : α → PyData} : NoN (fun xs : List α => PyData.list (xs.map d)) := ⟨fun x => ⟨by simp [PyData.eqv], by simp [PyData.eqv]⟩⟩
instance {d : α → PyData} : NoN (fun xs : List α => PyData.tuple (xs.map d)) := ⟨fun x => ⟨by simp [PyData.eqv], by simp [PyData.eqv]⟩⟩
instance {d : α → PyData} {f : β → PyData} : NoN (fun p : α × β => PyData.tuple [d p.1, f p.2]) := ⟨fun x => ⟨by simp [PyData.eqv], by simp [PyData.eqv]⟩⟩
def dO (d : α → PyData) : Option α → PyData
  | none => .none
  | some x => d x
theorem dtO {d : α → PyData} {n : Nat} (h : Dt R d n) [N : NoN d] : Dt (rO R) (dO d) n := by
  refine ⟨fun {K H v x} r => ?_, fun x => ?_, fun x => ?_, fun x y => ?_⟩
  · cases x with
    | none => have : v = .non := r; subst this; exact .non
    | some x => exact h.dp r
  · cases x with
    | none => rfl
    | some x => exact h.lay x
  · cases x with
    | none => exact Nat.zero_le _
    | some x => exact h.dep x
  · cases x with
    | none =>
      cases y with
      | none => simp [dO, PyData.eqv]
      | some y => simp [dO, (N.ne y).1]
    | some x =>
      cases y with
      | none => simp [dO, (N.ne x).2]
      | some y => simp [dO, h.eq x y]
/-- an operator that makes a new list -/
def RRL (r : R2) (R : Rep α) (S : Rep β) (T : Rep γ) (f : α → β → Option (List γ)) : Prop :=
  ∀ v w x y z H G, R.r G v x → S.r G w y → f x y = some z → Ex G H → ∀ Q : VK, (∀ p H2 G2, H p = none → Up G H G2 H2 → Wd G2 H2 [(p, cL T z)] → Q (.ref p) H2) → r v w H Q
theorem el_op {r : R2} {f : α → β → Option (List γ)} {ma : Option α} {mb : Option β} (hr : RRL r R S T f) (ha : E te σ G W R ma) (hb : E tu σ G W S mb) :
    EL (tOp r te tu) σ G W T (ma >>= fun x => mb >>= fun y => f x y) := fun z hz H e e' Q q => by
  obtain ⟨x, hx, hz⟩ := bindS hz
  obtain ⟨y, hy, hz⟩ := bindS hz
  refine ha x hx H e e' _ fun v H1 G1 u1 r1 => ?_
  refine (hb.mono u1.gg (e'.trans u1.hh)) y hy H1 u1.gh (Ex.refl _) _ fun w H2 G2 u2 r2 => ?_
  exact hr v w x y z H2 G2 (R.mono u2.gg r1) r2 hz u2.gh Q fun p H3 G3 hp u3 w3 => q p H3 G3 (fresh_back (u1.hh.trans u2.hh) hp) ((u1.trans u2).trans u3) w3
def catM (xs ys : List α) : Option (List α) := bif decide (xs.length + ys.length < 100000) then some (xs ++ ys) else none
theorem rrl_cat : RRL rCat (rL R) (rL R) R (fun xs ys => catM xs ys) := fun v w xs ys z H G hv hw hz e Q q => by
  obtain ⟨a, vs, rfl, h2, h3⟩ := hv
  obtain ⟨b, ws, rfl, k2, k3⟩ := hw
  have hz : (bif decide (xs.length + ys.length < 100000) then some (xs ++ ys) else none) = some z := hz
  cases hl : decide (xs.length + ys.length < 100000) with
  | false => rw [hl] at hz; cases hz
  | true =>
    rw [hl] at hz
    cases hz
    exact ⟨a, b, vs, ws, rfl, rfl, e a _ h2, e b _ k2, by rw [h3.length, k3.length]; exact sz_of (Nat.le_of_lt (of_decide_eq_true hl)), fun p hp => q p _ G hp (up_new e hp) (wd_new e hp (pr_app h3 k3))⟩
/-- a method of a built-in type that changes nothing -/
def RBM (rr : V → List V → Hp → VK → Prop) (R : Rep α) (A : AR ι) (T : Rep γ) (f : α → ι → Option γ) : Prop :=
  ∀ v vs x i z H G, R.r G v x → A.r G vs i → f x i = some z → Ex G H → ∀ Q : VK, (∀ u H2 G2, Up G H G2 H2 → T.r G2 u z → Q u H2) → rr v vs H Q
theorem e_bmL {rr : V → List V → Hp → VK → Prop} {f : List α → ι → Option γ} {m : Option (List α)} {mi : Option ι} (hr : RBM rr (rL R) A T f) (h : E te σ G W (rL R) m) (ha : EA ta σ G W A mi) : E (tBM K "list" rr te ta) σ G W T (m >>= fun x => mi >>= fun i => f x i) := fun z hz H e e' Q q => by
  obtain ⟨x, hx, hz⟩ := bindS hz
  obtain ⟨i, hi, hz⟩ := bindS hz
  refine h x hx H e e' _ fun v H1 G1 u1 r1 => ?_
  refine ⟨?_, (ha.mono u1.gg (e'.trans u1.hh)) i hi H1 u1.gh (Ex.refl _) _ fun vs H2 G2 u2 r2 => ?_⟩
  · obtain ⟨a, us, rfl, h2, _⟩ := r1
    exact .inl ⟨rfl, us, Or.inl (Or.inl (u1.gh a _ h2))⟩
  · exact hr v vs x i z H2 G2 ((rL R).mono u2.gg r1) r2 hz u2.gh Q fun u H3 G3 u3 r3 => q u H3 G3 ((u1.trans u2).trans u3) r3
def idxM (eq : α → α → Bool) (xs : List α) (y : α) : Option Int := (xs.findIdx? fun z => eq z y) >>= fun j => some (j : Int)
theorem idx_ok {eq : α → α → Bool} : ∀ {xs : List α} {y : α} {j : Nat}, (xs.findIdx? fun z => eq z y) = some j → ∃ z, xs[j]? = some z ∧ eq z y = true ∧ ∀ m z', m < j → xs[m]? = some z' → eq z' y = false := fun {xs y j} h => by
  obtain ⟨h1, h2, h3⟩ := List.findIdx?_eq_some_iff_getElem.mp h
  refine ⟨xs[j], List.getElem?_eq_getElem h1, h2, fun m z' hm hz => ?_⟩
  obtain ⟨hl, e⟩ := List.getElem?_eq_some_iff.mp hz
  subst e
  have := h3 m hm
  simpa using this
theorem rbm_index {eq : α → α → Bool} (f : FlR R eq) : RBM (rIndex K) (rL R) (aC R aN) rI (fun xs i => idxM eq xs i.1) := fun v vs xs i z H G hv ha hz e Q q => by
  obtain ⟨a, us, rfl, h2, h3⟩ := hv
  obtain ⟨y, _, rfl, r, rfl⟩ := ha
  obtain ⟨j, hj, hz⟩ := bindS hz
  cases hz
  obtain ⟨z, hz, he, hb⟩ := idx_ok hj
  obtain ⟨_, h5⟩ := pr_inV f r h3
  obtain ⟨w, hw, rw_⟩ := pr_get h3 hz
  refine ⟨a, us, y, j, w, rfl, rfl, Or.inl (Or.inl (e a _ h2)), f.fl r, h5, hw, by rw [f.eq rw_ r]; exact he, fun m z' hm hz' => ?_, q _ H G (Up.refl e) rfl⟩
  obtain ⟨x', hx', r'⟩ := pr_get' h3 hz'
  rw [f.eq r' r]; exact hb m x' hm hx'
theorem pr_bls {H : Hp} : ∀ {vs : List V} {xs : List Bool}, Paired (rB.r H) vs xs → vs = xs.map V.bl
  | _, _, .nil => rfl
  | _, _, .cons r t => by rw [show _ = V.bl _ from r, pr_bls t]; rfl
theorem rc_all : RC (rAll K) (aC (rL rB) aN) rB (fun i => some (i.1.all id)) := fun vs i z H G hv hz e Q q => by
  cases hz
  obtain ⟨v, ws, rfl, ⟨a, us, rfl, h2, h3⟩, rfl⟩ := hv
  have := pr_bls h3
  subst this
  exact ⟨a, i.1, rfl, Or.inl (Or.inl (e a _ h2)), q _ H G (Up.refl e) rfl⟩
theorem rc_any : RC (rAny K) (aC (rL rB) aN) rB (fun i => some (i.1.any id)) := fun vs i z H G hv hz e Q q => by
  cases hz
  obtain ⟨v, ws, rfl, ⟨a, us, rfl, h2, h3⟩, rfl⟩ := hv
  have := pr_bls h3
  subst this
  exact ⟨a, i.1, rfl, Or.inl (Or.inl (e a _ h2)), q _ H G (Up.refl e) rfl⟩
theorem e_methB {l C : Addr} {ns : List Str} {fl : α → List Pd} {to : TE} {κ : Type} {B : Rep κ} {m : Option α} {mi : Option ι} {me : Str} {ad : α × ι → Addr} {f : List κ → α × ι → Option γ} {ys : List κ} {X : XK} (h : E to σ G W (rObj C ns fl) m) (ha : EA ta σ G W A mi) (L : Lent G W l B ys) (hi : ns.contains me = false) (hl : ∀ o i, mi = some i → ad (o, i) = l) :
    E (tMeth C me (PB (aC (rObj C ns fl) A) ad B T f) [] X to ta) σ G W T (m >>= fun o => mi >>= fun i => f ys (o, i)) := fun z hz H e e' Q q => by
  obtain ⟨x, hx, hz⟩ := bindS hz
  obtain ⟨y, hy, hz⟩ := bindS hz
  refine h x hx H e e' _ fun v H1 G1 u r => ?_
  obtain ⟨a, dx, fs, rfl, h2, h3⟩ := r
  refine ⟨a, dx, fs, rfl, u.gh a _ h2, look_no h3.1 hi, ?_⟩
  refine (ha.mono u.gg (e'.trans u.hh)) y hy H1 u.gh (Ex.refl _) _ fun vs H3 G3 u3 r3 => ?_
  rw [List.append_nil]
  have := hl x y hy
  subst this
  exact ⟨G3, (x, y), ys, z, u3.gh, ⟨.ref a, vs, rfl, ⟨a, dx, fs, rfl, u3.gg a _ h2, h3.mono u3.gg⟩, r3⟩, L.up e' (u.trans u3), hz, fun v H4 G4 u4 r4 => q v H4 G4 ((u.trans u3).trans u4) r4⟩
end
end Sim

/-! operators of own classes: ==, len, in, binary and unary ones -/
namespace L2
open PySem PySem.Spec PyProof.Rows
section
variable {X : Cx} {CX : CXT} {k : Nat} {f C : Addr} {fd : FuncData} {ps : List Str} {sp : Sp} {pins : List (Addr × Obj)} {σ : St} {H : Hp} {s : Shared} {ta tb : TE}
theorem rel_ni {v : V} {u : Value} (r : RelV v u) : u ≠ .notImplemented := by
  rintro rfl
  cases v <;> first | (cases r; done) | (obtain ⟨_, r⟩ := r; cases r)
/-- a special method runs -/
theorem run_sp {A : Around} {Q : VK} {us : List Value} {vs : List V} {E : XK} (F : FnOk X.prog X.w X.K X.mg X.base CX k f fd ps sp) (hr : Room k A) (hfr : A.frames = X.A.frames) (hb : Binds X.K fd ps []) (hx : PassesAt CX X σ E)
    (I : Inv X pins σ H s) (r : Vals vs us) (h : sp vs H Q E) : wpAny (model X.prog X.w) A (call (.ref f) us) (EP X pins σ Q) X.xe s := by
  have hl : us.length = ps.length := by rw [← r.length]; exact F.len _ _ _ _ h
  have b := hb s us I.kIn (by rw [List.append_nil]; exact hl)
  rw [List.append_nil] at b
  have e := I.env0
  have e0 : Env0 X.prog X.w X.K X.mg X.base A X.stack s H := ⟨by rw [hfr]; exact e.frames, e.mod, e.bs, e.bsz, e.funs, e.frf, e.hok, e.bare⟩
  refine wpAny_call (codeAny_mono (F.run A X.stack s H ⟨us, []⟩ us vs Q E hr e0 b r h) fun r s' hq => ?_)
  cases r with
  | error e => exact hx pins H s e s' I hq
  | ok fl =>
    cases fl with
    | ret u => exact I.after hq
    | next => exact False.elim hq
    | brk => exact False.elim hq
    | cont => exact False.elim hq
theorem passAt0 {E : XK} : PassesAt CX0 X σ E := fun _ _ _ _ _ _ h => h.elim
/-- what stands right of an own comparison: no instance of a subclass -/
def NFst (K : PySem.W.Frag) (C : Addr) (H : Hp) (y : V) : Prop := (∃ b dy gs, y = .ref b ∧ H b = some (.ins C dy gs)) ∨ ∃ t, TyX K H y t ∧ PySem.W.subIn K t (.ref C) = some false
theorem NFst.looks {y : V} {u : Value} (h : NFst X.K C H y) (I : Inv X pins σ H s) (ry : RelV y u) : ∃ tb, PySem.W.Looks (model X.prog X.w) s.heap (typeOf u) tb ∧ PySem.W.notFirst X.K C tb = true := by
  rcases h with ⟨b, dy, gs, rfl, hb⟩ | ⟨t, ty, hs⟩
  · cases ry
    obtain ⟨mB, J', _⟩ := ins_get I.hok hb
    obtain ⟨od', J', _⟩ := J'.look
    exact ⟨.ref C, J'.type, by simp [PySem.W.notFirst]⟩
  · obtain ⟨P, Z, hp, _⟩ := kit_of I ry ty
    exact ⟨t, Z.ty _ _ I.kIn hp, by simp [PySem.W.notFirst, hs]⟩
def rEqO (K : PySem.W.Frag) (C : Addr) (sp : Sp) : R2 := fun x y H Q => ∃ a dx fs, x = .ref a ∧ H a = some (.ins C dx fs) ∧ NFst K C H y ∧ sp [.ref a, y] H Q E0
theorem back_ok {v : Value} {Q : Value → Shared → Prop} {s' : Shared} (h : v ≠ .notImplemented) (q : Q v s') : PySem.W.CmpBack Q v s' := by
  cases v <;> first | exact absurd rfl h | exact q
theorem op_eqO (F : FnOk X.prog X.w X.K X.mg X.base CX0 k f fd ps sp) (hr : Room k X.A) (M : Meth X.K C "__eq__" f) (hb : Binds X.K fd ps []) : OpR X (compareOp .Eq) (rEqO X.K C sp) := by
  intro pins s σ H x y v u Q I rx ry h
  obtain ⟨a, dx, fs, rfl, ha, hn, q⟩ := h
  cases rx
  obtain ⟨mA, J, _⟩ := ins_get I.hok ha
  obtain ⟨od, J, _⟩ := J.look
  obtain ⟨tb, lk, nf⟩ := hn.looks I ry
  obtain ⟨m, hF⟩ := I.fr
  show wpAny (model X.prog X.w) X.A (richCompare .Eq (.ref a) u) (EP X pins σ Q) X.xe s
  refine PySem.W.cmp_K (op := .Eq) (tb := tb) hr.units0 hF I.ok.mod.kin J lk nf M.at_ M.fn ?_
  refine wpAny_mono (run_sp (us := [.ref a, u]) (vs := [.ref a, y]) F hr rfl hb passAt0 I (.cons rfl (.cons ry .nil)) q) (fun v s' hv => ?_) fun _ _ z => z
  obtain ⟨z, H', I', rz, qz⟩ := hv
  exact back_ok (rel_ni rz) ⟨z, H', I', rz, qz⟩
def rLenO (C : Addr) (sp : Sp) : List V → Hp → VK → Prop := fun xs H Q => ∃ a dx fs, xs = [.ref a] ∧ H a = some (.ins C dx fs) ∧ sp [.ref a] H (fun v H' => ∃ n : Int, v = .int n ∧ 0 ≤ n ∧ n < 2 ^ 63 ∧ Q v H') E0
theorem call_lenO (F : FnOk X.prog X.w X.K X.mg X.base CX0 k f fd ps sp) (hr : Room (k + 1) X.A) (M : Meth X.K C "__len__" f) (hb : Binds X.K fd ps []) : CallR X (.builtin "len") (rLenO C sp) := by
  intro pins s σ H xs us Q I r h
  obtain ⟨a, dx, fs, rfl, ha, q⟩ := h
  cases r with
  | cons rx rr =>
    cases rr
    cases rx
    obtain ⟨mA, J, _⟩ := ins_get I.hok ha
    obtain ⟨od, J, _⟩ := J.look
    obtain ⟨m, hF⟩ := I.fr
    refine PySem.W.len_K hF I.ok.mod.kin J M.at_ M.fn ?_
    refine wpAny_mono (run_sp (us := [.ref a]) (vs := [.ref a]) F hr.in1 rfl hb passAt0 I (.cons rfl .nil) q) (fun v s' hv => ?_) fun _ _ z => z
    obtain ⟨z, H', I', rz, n, rfl, h0, h1, qz⟩ := hv
    obtain ⟨t, rfl⟩ : ∃ t, v = .int n t := rz
    exact ⟨⟨h0, h1⟩, .int n, H', I'.tok _, ⟨_, rfl⟩, qz⟩
def rInO (C : Addr) (sp : Sp) (g : Bool → Bool) : R2 := fun x y H Q => ∃ a dx fs, y = .ref a ∧ H a = some (.ins C dx fs) ∧ sp [.ref a, x] H (fun v H' => ∃ b, v = .bl b ∧ Q (.bl (g b)) H') E0
theorem op_inO (F : FnOk X.prog X.w X.K X.mg X.base CX0 k f fd ps sp) (hr : Room k X.A) (M : Meth X.K C "__contains__" f) (hb : Binds X.K fd ps []) : OpR X (compareOp .In) (rInO C sp id) := by
  intro pins s σ H x y v u Q I rx ry h
  obtain ⟨a, dx, fs, rfl, ha, q⟩ := h
  cases ry
  obtain ⟨mA, J, _⟩ := ins_get I.hok ha
  obtain ⟨od, J, _⟩ := J.look
  obtain ⟨m, hF⟩ := I.fr
  refine PySem.W.in_K hF I.ok.mod.kin J M.at_ M.fn ?_
  refine wpAny_mono (run_sp (us := [.ref a, v]) (vs := [.ref a, x]) F hr rfl hb passAt0 I (.cons rfl (.cons rx .nil)) q) (fun v s' hv => ?_) fun _ _ z => z
  obtain ⟨z, H', I', rz, b, rfl, qz⟩ := hv
  cases rz
  exact wpAny_pure ⟨.bl b, H', I', rfl, qz⟩
theorem op_notInO (F : FnOk X.prog X.w X.K X.mg X.base CX0 k f fd ps sp) (hr : Room k X.A) (M : Meth X.K C "__contains__" f) (hb : Binds X.K fd ps []) : OpR X (compareOp .NotIn) (rInO C sp (!·)) := by
  intro pins s σ H x y v u Q I rx ry h
  obtain ⟨a, dx, fs, rfl, ha, q⟩ := h
  cases ry
  obtain ⟨mA, J, _⟩ := ins_get I.hok ha
  obtain ⟨od, J, _⟩ := J.look
  obtain ⟨m, hF⟩ := I.fr
  refine PySem.W.notIn_K hF I.ok.mod.kin J M.at_ M.fn ?_
  refine wpAny_mono (run_sp (us := [.ref a, v]) (vs := [.ref a, x]) F hr rfl hb passAt0 I (.cons rfl (.cons rx .nil)) q) (fun v s' hv => ?_) fun _ _ z => z
  obtain ⟨z, H', I', rz, b, rfl, qz⟩ := hv
  cases rz
  exact wpAny_pure ⟨.bl (!b), H', I', rfl, qz⟩
/-- a * b, a + b, a | b, a & b of an own class, what is raised wished for at the slots -/
def tOpX (C : Addr) (sp : Sp) (E : St → XK) (ta tb : TE) : TE := fun σ H Q => ta σ H fun x H1 => tb σ H1 fun y H2 => ∃ a dx fs b dy gs, x = .ref a ∧ H2 a = some (.ins C dx fs) ∧ y = .ref b ∧ H2 b = some (.ins C dy gs) ∧ sp [.ref a, .ref b] H2 Q (E σ)
theorem pe_opX {op : Operator} {E : St → XK} {a b : Expr} {pos : Pos} {nm : Str} (hn : nm = PySem.dunder op.info.2) (F : FnOk X.prog X.w X.K X.mg X.base CX k f fd ps sp) (hr : Room k X.A) (M : Meth X.K C nm f) (hsf : PySem.W.selfFirst X.K C = true) (hb : Binds X.K fd ps []) (hx : ∀ σ, PassesAt CX X σ (E σ))
    (pa : PE X a ta) (pb : PE X b tb) : PE X (.BinOp a op b pos) (tOpX C sp E ta tb) := by
  subst hn
  refine ⟨fun pins s σ H Q I h => ?_⟩
  refine wpAny_BinOp (binT (R := fun x y H2 => ∃ a dx fs b dy gs, x = .ref a ∧ H2 a = some (.ins C dx fs) ∧ y = .ref b ∧ H2 b = some (.ins C dy gs) ∧ sp [.ref a, .ref b] H2 Q (E σ)) pa pb I h fun v u s2 x y H2 I2 rx ry q => ?_)
  obtain ⟨a, dx, fs, b, dy, gs, rfl, ha, rfl, hb', q⟩ := q
  cases rx
  cases ry
  obtain ⟨mA, J, _⟩ := ins_get I2.hok ha
  obtain ⟨od, J, _⟩ := J.look
  obtain ⟨mB, J', _⟩ := ins_get I2.hok hb'
  obtain ⟨od', J', _⟩ := J'.look
  obtain ⟨m, hF⟩ := I2.fr
  refine PySem.W.binop_K hF I2.ok.mod.kin J J'.type hsf M.at_ M.fn ?_
  refine wpAny_mono (run_sp (us := [.ref a, .ref b]) (vs := [.ref a, .ref b]) F hr rfl hb (hx σ) I2 (.cons rfl (.cons rfl .nil)) q) (fun v s' hv => ?_) fun _ _ z => z
  obtain ⟨z, H', I', rz, qz⟩ := hv
  exact back_ok (rel_ni rz) ⟨z, H', I', rz, qz⟩
/-- ~a of an own class -/
def tUnX (C : Addr) (sp : Sp) (E : St → XK) (ta : TE) : TE := fun σ H Q => ta σ H fun x H1 => ∃ a dx fs, x = .ref a ∧ H1 a = some (.ins C dx fs) ∧ sp [.ref a] H1 Q (E σ)
theorem pe_invX {E : St → XK} {a : Expr} {pos : Pos} (F : FnOk X.prog X.w X.K X.mg X.base CX k f fd ps sp) (hr : Room k X.A) (M : Meth X.K C "__invert__" f) (hb : Binds X.K fd ps []) (hx : ∀ σ, PassesAt CX X σ (E σ))
    (pa : PE X a ta) : PE X (.UnaryOp .Invert a pos) (tUnX C sp E ta) := by
  refine ⟨fun pins s σ H Q I h => ?_⟩
  refine UnaryOp_ (thn (pa.run pins s σ H _ I h) fun v s1 ⟨x, H1, I1, r1, a, dx, fs, ex, ha, q⟩ => ?_)
  subst ex
  cases r1
  obtain ⟨mA, J, _⟩ := ins_get I1.hok ha
  obtain ⟨od, J, _⟩ := J.look
  unfold unaryOp
  refine wpAny_holding ?_
  dsimp only
  refine (congrArg (fun z => wpAny (model X.prog X.w) X.A z (EP X pins σ Q) X.xe s1) (if_neg (show ¬ ((UnaryOp.Invert == UnaryOp.Not) = true) by decide))).mpr ?_
  refine wpAny_bind (m := callSpecial? (.ref a) _ []) (PySem.W.special_fn I1.kIn J M.at_ (beq_iff_eq.mp M.fn) ?_)
  refine wpAny_mono (run_sp (us := [.ref a]) (vs := [.ref a]) F hr rfl hb (hx σ) I1 (.cons rfl .nil) q) (fun v s' hv => ?_) fun _ _ z => z
  obtain ⟨z, H', I', rz, qz⟩ := hv
  exact wpAny_pure ⟨z, H', I', rz, qz⟩
end
end L2

/-! operators of own classes: what they read as -/
namespace Sim
open PySem PySem.Spec PyProof.Rows L2 Evl
section
variable {K : PySem.W.Frag} {σ : L2.St} {G H W : Hp} {ta tb te : TE} {tA : TA} {α β γ ι : Type} {R : Rep α} {S : Rep β} {T : Rep γ} {A : AR ι} {C : Addr} {ns : List Str} {fl : α → List Pd}
/-- never an instance of a subclass of C -/
def Rep.NS (S : Rep β) (K : PySem.W.Frag) (C : Addr) : Prop := ∀ {H : Hp} {v : V} {y : β}, S.r H v y → NFst K C H v
theorem nsObj : (rObj C ns fl).NS K C := fun ⟨a, dx, fs, h, h2, _⟩ => .inl ⟨a, dx, fs, h, h2⟩
theorem nsTy {n : String} (k : KTy S n) (h : PySem.W.subIn K (.type n) (.ref C) = some false) : S.NS K C := fun r => .inr ⟨_, k r, h⟩
theorem rr_eqO {f : α → β → Option Bool} (hS : S.NS K C) : RR (rEqO K C (PF (aC (rObj C ns fl) (aC S aN)) rB fun i => f i.1 i.2.1)) (rObj C ns fl) S rB f := fun v w x y z H G hv hw hz e Q q => by
  obtain ⟨a, dx, fs, rfl, h2, h3⟩ := hv
  exact ⟨a, dx, fs, rfl, e a _ h2, hS (S.mono e hw), G, (x, y, ()), z, e, ⟨_, _, rfl, ⟨a, dx, fs, rfl, h2, h3⟩, _, _, rfl, hw, rfl⟩, hz, fun u H2 G2 up r => q u H2 G2 up r⟩
def lenM (n : Int) : Option Int := bif decide (0 ≤ n ∧ n < 2 ^ 63) then some n else none
theorem rc_lenO {f : α → Option Int} : RC (rLenO C (PF (aC (rObj C ns fl) aN) rI fun i => f i.1)) (aC (rObj C ns fl) aN) rI (fun i => f i.1 >>= lenM) := fun vs i z H G hv hz e Q q => by
  obtain ⟨n, hn, hz⟩ := bindS hz
  unfold lenM at hz
  cases hb : decide (0 ≤ n ∧ n < 2 ^ 63) with
  | false => rw [hb] at hz; cases hz
  | true =>
    rw [hb] at hz
    cases hz
    obtain ⟨b1, b2⟩ := of_decide_eq_true hb
    obtain ⟨v, ws, rfl, ⟨a, dx, fs, rfl, h2, h3⟩, rfl⟩ := hv
    exact ⟨a, dx, fs, rfl, e a _ h2, G, (i.1, ()), _, e, ⟨_, _, rfl, ⟨a, dx, fs, rfl, h2, h3⟩, rfl⟩, hn, fun u H2 G2 up r => ⟨_, r, b1, b2, q u H2 G2 up r⟩⟩
theorem rr_inO {f : α → β → Option Bool} {g : Bool → Bool} : RR (rInO C (PF (aC (rObj C ns fl) (aC S aN)) rB fun i => f i.1 i.2.1) g) S (rObj C ns fl) rB (fun y x => f x y >>= fun b => some (g b)) := fun v w y x z H G hv hw hz e Q q => by
  obtain ⟨b, hb, hz⟩ := bindS hz
  cases hz
  obtain ⟨a, dx, fs, rfl, h2, h3⟩ := hw
  exact ⟨a, dx, fs, rfl, e a _ h2, G, (x, y, ()), b, e, ⟨_, _, rfl, ⟨a, dx, fs, rfl, h2, h3⟩, _, _, rfl, hv, rfl⟩, hb, fun u H2 G2 up r => by cases r; exact ⟨b, rfl, q _ H2 G2 up rfl⟩⟩
theorem ex_opX {f : α → α → Option (Xn ⊕ γ)} {ma mb : Option α} {Wx : L2.St → XK} (ha : E ta σ G W (rObj C ns fl) ma) (hb : E tb σ G W (rObj C ns fl) mb) :
    EX K (tOpX C (PX K (aC (rObj C ns fl) (aC (rObj C ns fl) aN)) T fun i => f i.1 i.2.1) Wx ta tb) σ G W T (ma >>= fun x => mb >>= fun y => f x y) (Wx σ) := fun z hz H e e' Q qx q => by
  obtain ⟨x, hx, hz⟩ := bindS hz
  obtain ⟨y, hy, hz⟩ := bindS hz
  refine ha x hx H e e' _ fun v H1 G1 u1 r1 => ?_
  refine (hb.mono u1.gg (e'.trans u1.hh)) y hy H1 u1.gh (Ex.refl _) _ fun w H2 G2 u2 r2 => ?_
  obtain ⟨a, dx, fs, rfl, h2, h3⟩ := (rObj C ns fl).mono u2.gg r1
  obtain ⟨b, dy, gs, rfl, k2, k3⟩ := r2
  have u := u1.trans u2
  exact ⟨a, dx, fs, b, dy, gs, rfl, u2.gh a _ h2, rfl, u2.gh b _ k2, G2, (x, y, ()), z, u2.gh, ⟨_, _, rfl, ⟨a, dx, fs, rfl, h2, h3⟩, _, _, rfl, ⟨b, dy, gs, rfl, k2, k3⟩, rfl⟩, hz,
    fun e he d H4 G4 u4 r4 => qx e he d H4 G4 (u.trans u4) r4, fun o ho v H4 G4 u4 r4 => q o ho v H4 G4 (u.trans u4) r4⟩
theorem e_opX {f : α → α → Option γ} {ma mb : Option α} {Wx : L2.St → XK} (ha : E ta σ G W (rObj C ns fl) ma) (hb : E tb σ G W (rObj C ns fl) mb) :
    E (tOpX C (PF (aC (rObj C ns fl) (aC (rObj C ns fl) aN)) T fun i => f i.1 i.2.1) Wx ta tb) σ G W T (ma >>= fun x => mb >>= fun y => f x y) := fun z hz H e e' Q q => by
  obtain ⟨x, hx, hz⟩ := bindS hz
  obtain ⟨y, hy, hz⟩ := bindS hz
  refine ha x hx H e e' _ fun v H1 G1 u1 r1 => ?_
  refine (hb.mono u1.gg (e'.trans u1.hh)) y hy H1 u1.gh (Ex.refl _) _ fun w H2 G2 u2 r2 => ?_
  obtain ⟨a, dx, fs, rfl, h2, h3⟩ := (rObj C ns fl).mono u2.gg r1
  obtain ⟨b, dy, gs, rfl, k2, k3⟩ := r2
  have u := u1.trans u2
  exact ⟨a, dx, fs, b, dy, gs, rfl, u2.gh a _ h2, rfl, u2.gh b _ k2, G2, (x, y, ()), z, u2.gh, ⟨_, _, rfl, ⟨a, dx, fs, rfl, h2, h3⟩, _, _, rfl, ⟨b, dy, gs, rfl, k2, k3⟩, rfl⟩, hz, fun v H4 G4 u4 r4 => q v H4 G4 (u.trans u4) r4⟩
theorem e_unX {f : α → Option γ} {ma : Option α} {Wx : L2.St → XK} (ha : E ta σ G W (rObj C ns fl) ma) : E (tUnX C (PF (aC (rObj C ns fl) aN) T fun i => f i.1) Wx ta) σ G W T (ma >>= fun x => f x) := fun z hz H e e' Q q => by
  obtain ⟨x, hx, hz⟩ := bindS hz
  refine ha x hx H e e' _ fun v H1 G1 u1 r1 => ?_
  obtain ⟨a, dx, fs, rfl, h2, h3⟩ := r1
  exact ⟨a, dx, fs, rfl, u1.gh a _ h2, G1, (x, ()), z, u1.gh, ⟨_, _, rfl, ⟨a, dx, fs, rfl, h2, h3⟩, rfl⟩, hz, fun v H4 G4 u4 r4 => q v H4 G4 (u1.trans u4) r4⟩
/-- isinstance of an own class's instance -/
def tyiB (C : Str) (K : PySem.W.Frag) : Bool := decide (PySem.W.findIn K (.ref (He.ga K C)) "__class__" = some (some (.builtin "object.__class__"))) && (decide (PySem.W.specialIn K (.builtin "object.__class__") "__get__" = some (some (.builtin "getset_descriptor.__get__"))) &&
  (decide (PySem.W.takesIn K (.builtin "object.__class__") = some true) && decide (PySem.W.mroIn K (He.ga K C) (.type "object") = some true)))
theorem tyi_of {C : Str} {a dx : Addr} {fs : List (Str × V)} (h : tyiB C K = true) (cl : Cls K (He.ga K C)) (e : H a = some (.ins (He.ga K C) dx fs)) : TyOf K H (.ref a) (.ref (He.ga K C)) := by
  obtain ⟨h1, h⟩ := He.ba h
  obtain ⟨h2, h⟩ := He.ba h
  obtain ⟨h3, h4⟩ := He.ba h
  exact .ins e cl (of_decide_eq_true h1) (of_decide_eq_true h2) (of_decide_eq_true h3) (of_decide_eq_true h4)
theorem e_isiO {C D : Str} {ns : List Str} {fl : α → List Pd} {m : Option α} {b : Bool} (h : E te σ G W (rObj (He.ga K C) ns fl) m) (ht : tyiB C K = true) (cl : Cls K (He.ga K C)) (hk : PySem.W.kitOne K (.ref (He.ga K C)) (.ref (He.ga K D)) = some b) :
    E (tCB (rIsi K) (tCons te (tCons (tC (.ref (He.ga K D))) tNil))) σ G W rB (m >>= fun _ => some b) := fun z hz H e e' Q q => by
  obtain ⟨x, hx, hz⟩ := bindS hz
  cases hz
  refine h x hx H e e' _ fun v H1 G1 u r => ?_
  obtain ⟨a, dx, fs, rfl, h2, _⟩ := r
  exact ⟨.ref a, .ref (He.ga K D), .ref (He.ga K C), .ref (He.ga K D), _, rfl, .own _, .base (tyi_of ht cl (u.gh a _ h2)), hk, q _ H1 G1 u rfl⟩
/-- isinstance of other data: never -/
theorem e_isiN {D : Str} {m : Option β} {n : String} {b : Bool} (h : E te σ G W S m) (k : KTy S n) (hk : PySem.W.kitOne K (.type n) (.ref (He.ga K D)) = some b) :
    E (tCB (rIsi K) (tCons te (tCons (tC (.ref (He.ga K D))) tNil))) σ G W rB (m >>= fun _ => some b) := fun z hz H e e' Q q => by
  obtain ⟨x, hx, hz⟩ := bindS hz
  cases hz
  refine h x hx H e e' _ fun v H1 G1 u r => ?_
  exact ⟨v, .ref (He.ga K D), .type n, .ref (He.ga K D), _, rfl, .own _, k (S.mono u.gh r), hk, q _ H1 G1 u rfl⟩
def kitNB (n : String) (D : Str) (b : Bool) (K : PySem.W.Frag) : Bool := decide (PySem.W.kitOne K (.type n) (.ref (He.ga K D)) = some b)
theorem kitN_ok {n : String} {D : Str} {b : Bool} (h : kitNB n D b K = true) : PySem.W.kitOne K (.type n) (.ref (He.ga K D)) = some b := of_decide_eq_true h
def kiOB (C D : Str) (b : Bool) (K : PySem.W.Frag) : Bool := kiB C (.ref (He.ga K D)) b K
theorem ki_ok {C D : Str} {b : Bool} (h : kiOB C D b K = true) : PySem.W.kitOne K (.ref (He.ga K C)) (.ref (He.ga K D)) = some b := of_decide_eq_true h
def subNB (n : String) (D : Str) (K : PySem.W.Frag) : Bool := decide (PySem.W.subIn K (.type n) (.ref (He.ga K D)) = some false)
theorem subN_ok {n : String} {D : Str} (h : subNB n D K = true) : PySem.W.subIn K (.type n) (.ref (He.ga K D)) = some false := of_decide_eq_true h
def sfB (C : Str) (K : PySem.W.Frag) : Bool := PySem.W.selfFirst K (He.ga K C)
end
end Sim

/-! what is walked, told in general; comprehensions with two clauses -/
namespace Sim
open PySem L2 Evl
section
variable {K : PySem.W.Frag} {σ : L2.St} {G H W G' W' : Hp} {te tl : TE} {tt tt1 : TT} {α β γ δ : Type} {R : Rep α} {S : Rep β} {T : Rep γ} {wi wi1 : TI} {g g1 : TG}
/-- J walks xs, whatever happens above G1 -/
def Goes (J : It) (G1 : Hp) (R : Rep α) (xs : List α) : Prop :=
  ∀ i H, Ex G1 H → (i = xs.length → J.stop i H) ∧ ∀ x, xs[i]? = some x → J.go i H ∧ ∀ v H', J.yld i H v H' → H' = H ∧ R.r G1 v x
def Src (wi : TI) (σ : L2.St) (G W : Hp) (R : Rep α) (m : Option (List α)) : Prop :=
  ∀ xs, m = some xs → ∀ H, Ex G H → Ex W H → ∀ k : It → Hp → Prop, (∀ J H1 G1, Up G H G1 H1 → Goes J G1 R xs → k J H1) → wi σ H k
theorem src_list {m : Option (List α)} (h : E tl σ G W (rL R) m) : Src (iList K tl) σ G W R m := fun xs hx H e e' k q =>
  h xs hx H e e' _ fun v H1 G1 u r => by
    obtain ⟨a, us, rfl, h2, h3⟩ := r
    refine ⟨a, rfl, ⟨us, Or.inl (Or.inl (u.gh a _ h2))⟩, q _ H1 G1 u fun i H' e1 => ⟨fun hi => ?_, fun x hx => ?_⟩⟩
    · subst hi; exact ⟨us, Or.inl (Or.inl (e1 a _ h2)), by rw [h3.length]; exact Nat.le_refl _⟩
    · obtain ⟨v, hv, r⟩ := pr_get h3 hx
      refine ⟨⟨us, v, Or.inl (Or.inl (e1 a _ h2)), hv⟩, fun w H2 y => ?_⟩
      obtain ⟨rfl, y⟩ := y
      have := y us (Or.inl (Or.inl (e1 a _ h2)))
      rw [hv] at this
      cases this
      exact ⟨rfl, r⟩
theorem src_tup {m : Option (List α)} (h : E tl σ G W (rT R) m) : Src (iTup K tl) σ G W R m := fun xs hx H e e' k q =>
  h xs hx H e e' _ fun v H1 G1 u r => by
    obtain ⟨a, us, rfl, h2, h3⟩ := r
    refine ⟨a, rfl, ⟨us, Or.inl (Or.inl (u.gh a _ h2))⟩, q _ H1 G1 u fun i H' e1 => ⟨fun hi => ?_, fun x hx => ?_⟩⟩
    · subst hi; exact ⟨us, Or.inl (Or.inl (e1 a _ h2)), by rw [h3.length]; exact Nat.le_refl _⟩
    · obtain ⟨v, hv, r⟩ := pr_get h3 hx
      refine ⟨⟨us, v, Or.inl (Or.inl (e1 a _ h2)), hv⟩, fun w H2 y => ?_⟩
      obtain ⟨rfl, y⟩ := y
      have := y us (Or.inl (Or.inl (e1 a _ h2)))
      rw [hv] at this
      cases this
      exact ⟨rfl, r⟩
theorem goes_rng {lo hi : Int} {G1 : Hp} : Goes (Itr lo (hi - lo).toNat) G1 rI (rng lo hi) := fun i H' e1 => ⟨fun h => by rw [rng_len] at h; subst h; exact Nat.le_refl _, fun x hx => by
  have hl := (List.getElem?_eq_some_iff.mp hx).1
  rw [rng_len] at hl
  refine ⟨hl, fun v H2 y => ?_⟩
  obtain ⟨rfl, rfl⟩ := y
  have := rng_get hl
  rw [this] at hx
  cases hx
  exact ⟨rfl, rfl⟩⟩
theorem src_rng1 {ta : TA} {m : Option (Int × Unit)} (h : EA ta σ G W (aC rI aN) m) : Src (iRng1 ta) σ G W rI (m >>= fun n => rngM 0 n.1) := fun xs hx H e e' k q => by
  obtain ⟨n, hn, hx⟩ := bindS hx
  refine h n hn H e e' _ fun v H1 G1 u r => ?_
  obtain ⟨v1, ws, rfl, e1, rfl⟩ := r
  cases e1
  unfold rngM at hx
  split at hx
  · rename_i hb
    cases hx
    refine ⟨n.1, rfl, by omega, by omega, ?_⟩
    have := goes_rng (lo := 0) (hi := n.1) (G1 := G1)
    rw [Int.sub_zero] at this
    exact q _ H1 G1 u this
  · cases hx
theorem src_rng2 {ta : TA} {m : Option (Int × Int × Unit)} (h : EA ta σ G W (aC rI (aC rI aN)) m) : Src (iRng2 ta) σ G W rI (m >>= fun n => rngM n.1 n.2.1) := fun xs hx H e e' k q => by
  obtain ⟨n, hn, hx⟩ := bindS hx
  refine h n hn H e e' _ fun v H1 G1 u r => ?_
  obtain ⟨v1, ws, rfl, e1, v2, ws2, rfl, e2, rfl⟩ := r
  cases e1
  cases e2
  unfold rngM at hx
  split at hx
  · rename_i hb
    cases hx
    exact ⟨n.1, n.2.1, rfl, ⟨by omega, by omega, by omega, by omega⟩, q _ H1 G1 u goes_rng⟩
  · cases hx
/-- a target: how the slots stand behind -/
def Tgt (g : TG) (R : Rep α) (P : Hp → α → L2.St → L2.St → Prop) : Prop :=
  ∀ v x σ G H (Q : L2.St → Hp → Prop), Ex G H → R.r G v x → (∀ σ2, P G x σ σ2 → Q σ2 H) → g v σ H Q
def pN (R : Rep α) (j : Nat) : Hp → α → L2.St → L2.St → Prop := fun G x σ σ2 => ∃ v, R.r G v x ∧ σ2 = σ.set j (some v)
def pP (R : Rep α) (S : Rep β) (i j : Nat) : Hp → α × β → L2.St → L2.St → Prop := fun G x σ σ2 => ∃ v w, R.r G v x.1 ∧ S.r G w x.2 ∧ σ2 = (σ.set i (some v)).set j (some w)
theorem tg_name {j : Nat} : Tgt (gName j) R (pN R j) := fun v x σ G H Q _ r k => k _ ⟨v, r, rfl⟩
theorem tg_pair {i j : Nat} : Tgt (gTup K 2 (gCons (gName i) (gCons (gName j) gNil))) (rP R S) (pP R S i j) := fun v x σ G H Q e r k => g_pair r e fun y z h1 h2 => k _ ⟨y, z, h1, h2, rfl⟩
/-! ### [e2 for x in xs if f1 for y in g2 x if p2] -/
def lc2M (f1 : α → Option Bool) (g2 : α → Option (List β)) (p2 : α → β → Option Bool) (e2 : α → β → Option γ) : List α → Option (List γ)
  | [] => some []
  | x :: xs => f1 x >>= fun b => bif b then g2 x >>= fun ys => lcM (p2 x) (e2 x) ys >>= fun zs => lc2M f1 g2 p2 e2 xs >>= fun r => some (zs ++ r) else lc2M f1 g2 p2 e2 xs
def lc2S (f1 : α → Option Bool) (g2 : α → Option (List β)) (p2 : α → β → Option Bool) (e2 : α → β → Option γ) (xs : List α) : Option (List γ) := lc2M f1 g2 p2 e2 xs >>= fun zs => bif sz zs.length then some zs else none
theorem lc2S_ok {f1 : α → Option Bool} {g2 : α → Option (List β)} {p2 : α → β → Option Bool} {e2 : α → β → Option γ} {xs : List α} {zs : List γ} (h : lc2S f1 g2 p2 e2 xs = some zs) : sz zs.length = true ∧ lc2M f1 g2 p2 e2 xs = some zs := by
  obtain ⟨ys, h1, h2⟩ := bindS h
  cases e : sz ys.length with
  | true => rw [e] at h2; cases h2; exact ⟨e, h1⟩
  | false => rw [e] at h2; cases h2
structure Acc (G0 H0 : Hp) (T : Rep γ) (D : Addr) (G H : Hp) (acc : List V) (ys : List γ) : Prop where
  n : H0 D = none
  u : Up G0 H0 G H
  gd : G D = none
  hd : H D = some (.lst acc)
  pr : Paired (T.r G) acc ys
section
variable {G0 H0 : Hp} {D : Addr} {acc : List V} {ys zs : List γ}
theorem Acc.sc {H2 : Hp} (A : Acc G0 H0 T D G H acc ys) (e : Ex H H2) : Acc G0 H0 T D G H2 acc ys := ⟨A.n, A.u.trans (Up.same A.u.gh e), A.gd, e _ _ A.hd, A.pr⟩
theorem Acc.up {G2 H2 : Hp} (A : Acc G0 H0 T D G H acc ys) (u : Up G H G2 H2) : Acc G0 H0 T D G2 H2 acc ys :=
  ⟨A.n, A.u.trans u, u.nw D (by rw [A.hd]; simp) A.gd, u.hh _ _ A.hd, Paired.mapP A.pr fun _ _ => T.mono u.gg⟩
theorem Acc.add {v : V} {y : γ} (A : Acc G0 H0 T D G H acc ys) (r : T.r G v y) : Acc G0 H0 T D G (upd H D (.lst (acc ++ [v]))) (acc ++ [v]) (ys ++ [y]) := by
  refine ⟨A.n, ⟨A.u.gg, fun a o h => ?_, Ex.mut A.u.hh A.n, A.u.nw⟩, A.gd, upd_same, pr_app A.pr (.cons r .nil)⟩
  rw [upd_ne (fun z => by subst z; rw [A.gd] at h; cases h)]
  exact A.u.gh a o h
theorem Acc.start (e : Ex G0 H0) (hD : H0 D = none) : Acc G0 H0 T D G0 (upd H0 D (.lst [])) [] [] := ⟨hD, Up.same e (Ex.new hD), fresh_back e hD, upd_same, .nil⟩
theorem Acc.fin (A : Acc G0 H0 T D G H acc ys) : ∃ G, H0 D = none ∧ Up G0 H0 G H ∧ Wd G H [(D, cL T ys)] := by
  refine ⟨G, A.n, A.u, A.u.gh, fun c hc => ?_, List.nodup_cons.mpr ⟨List.not_mem_nil, List.nodup_nil⟩⟩
  cases List.mem_singleton.mp hc
  exact ⟨A.gd, _, A.hd, acc, rfl, A.pr⟩
end
theorem el_lc2 {vs vs1 : List Nat} {m : Option (List α)} {f1 : α → Option Bool} {g2 : α → Option (List β)} {p2 : α → β → Option Bool} {e2 : α → β → Option γ} {P : Hp → α → L2.St → L2.St → Prop} {P1 : Hp → β → L2.St → L2.St → Prop}
    (h : Src wi σ G W R m) (hg : Tgt g R P) (hw : ∀ x G' σ2, P G' x (wipe σ vs) σ2 → wipe σ2 vs = wipe σ vs)
    (ht : ∀ x σ2 G' W', Ex G G' → Ex W W' → Ex G' W' → P G' x (wipe σ vs) σ2 → ET tt σ2 W' (f1 x))
    (hi : ∀ x σ2 G' W', Ex G G' → Ex W W' → Ex G' W' → P G' x (wipe σ vs) σ2 → Src wi1 σ2 G' W' S (g2 x))
    (hg1 : Tgt g1 S P1) (hw1 : ∀ x y G' G'' σ2 σ3, P G' x (wipe σ vs) σ2 → P1 G'' y (wipe σ2 vs1) σ3 → wipe σ3 vs1 = wipe σ2 vs1)
    (ht1 : ∀ x y σ2 σ3 G' W', Ex G G' → Ex W W' → Ex G' W' → P G' x (wipe σ vs) σ2 → P1 G' y (wipe σ2 vs1) σ3 → ET tt1 σ3 W' (p2 x y))
    (he : ∀ x y σ2 σ3 G' W', Ex G G' → Ex W W' → Ex G' W' → P G' x (wipe σ vs) σ2 → P1 G' y (wipe σ2 vs1) σ3 → E te σ3 G' W' T (e2 x y))
    (mP : ∀ x σ1 σ2 G1 G2, Ex G1 G2 → P G1 x σ1 σ2 → P G2 x σ1 σ2) (mP1 : ∀ x σ1 σ2 G1 G2, Ex G1 G2 → P1 G1 x σ1 σ2 → P1 G2 x σ1 σ2) :
    EL (tLc2 wi g tt wi1 g1 tt1 te vs vs1) σ G W T (m >>= fun xs => lc2S f1 g2 p2 e2 xs) := fun zs hz H e e' Q q => by
  obtain ⟨xs, hx, hz⟩ := bindS hz
  obtain ⟨hs, hz⟩ := lc2S_ok hz
  refine h xs hx H e e' _ fun J H1 G1 u gs D hD => ?_
  have e1 : Ex W H1 := e'.trans u.hh
  refine ⟨fun i n H' => n = xs.length - i ∧ i ≤ xs.length ∧ ∃ G' acc ys rest, Acc G1 H1 T D G' H' acc ys ∧ lc2M f1 g2 p2 e2 (xs.drop i) = some rest ∧ ys ++ rest = zs, ⟨_, rfl, Nat.zero_le _, G1, [], [], zs, Acc.start u.gh hD, hz, rfl⟩, ?_⟩
  rintro i n H' ⟨rfl, hi', G', acc, ys, rest, A, hr, hzs⟩
  have gx := gs i H' (A.u.gg.trans A.u.gh)
  by_cases hlt : i < xs.length
  · obtain ⟨x, hx⟩ : ∃ x, xs[i]? = some x := ⟨_, List.getElem?_eq_getElem hlt⟩
    obtain ⟨go, yl⟩ := gx.2 x hx
    rw [drop_at hx] at hr
    obtain ⟨b, hb, hr⟩ := bindS hr
    refine .inr ⟨go, fun H' => ∃ G' acc ys rest, Acc G1 H1 T D G' H' acc ys ∧ lc2M f1 g2 p2 e2 (xs.drop (i + 1)) = some rest ∧ ys ++ rest = zs, fun H2 ⟨G2, a2, y2, r2, A2, k1, k2⟩ => ⟨xs.length - (i + 1), by omega, rfl, hlt, G2, a2, y2, r2, A2, k1, k2⟩, fun v H2 y => ?_⟩
    obtain ⟨rfl, r⟩ := yl v H2 y
    refine hg v x _ G' H2 _ A.u.gh (R.mono A.u.gg r) fun σ2 p => ⟨hw x G' σ2 p, ?_⟩
    refine ht x σ2 G' H2 (u.gg.trans A.u.gg) (e1.trans A.u.hh) A.u.gh p b hb H2 (Ex.refl _) _ fun H3 e3 => ?_
    have A := A.sc e3
    cases b with
    | false => exact ⟨G', acc, ys, rest, A, hr, hzs⟩
    | true =>
      obtain ⟨bs, hbs, hr⟩ := bindS hr
      obtain ⟨r1, hr1, hr⟩ := bindS hr
      obtain ⟨r2, hr2, hr⟩ := bindS hr
      cases hr
      show wi1 σ2 H3 _
      refine hi x σ2 G' H3 (u.gg.trans A.u.gg) (e1.trans A.u.hh) A.u.gh p bs hbs H3 A.u.gh (Ex.refl _) _ fun J1 H4 G4 u4 gs1 => ?_
      have A := A.up u4
      have p := mP _ _ _ _ _ u4.gg p
      refine ⟨fun j n H' => n = bs.length - j ∧ j ≤ bs.length ∧ ∃ G' acc ys rest, Ex G4 G' ∧ Acc G1 H1 T D G' H' acc ys ∧ lcM (p2 x) (e2 x) (bs.drop j) = some rest ∧ ys ++ (rest ++ r2) = zs, ⟨_, rfl, Nat.zero_le _, G4, acc, ys, r1, Ex.refl _, A, hr1, hzs⟩, ?_⟩
      rintro j n H5 ⟨rfl, hj, G5, acc5, ys5, rest5, x5, A5, hr5, hz5⟩
      have gx1 := gs1 j H5 (x5.trans A5.u.gh)
      have p := mP _ _ _ _ _ x5 p
      by_cases hlt1 : j < bs.length
      · obtain ⟨y, hy⟩ : ∃ y, bs[j]? = some y := ⟨_, List.getElem?_eq_getElem hlt1⟩
        obtain ⟨go1, yl1⟩ := gx1.2 y hy
        rw [drop_at hy] at hr5
        obtain ⟨b1, hb1, hr5⟩ := bindS hr5
        refine .inr ⟨go1, fun H' => ∃ G' acc ys rest, Ex G4 G' ∧ Acc G1 H1 T D G' H' acc ys ∧ lcM (p2 x) (e2 x) (bs.drop (j + 1)) = some rest ∧ ys ++ (rest ++ r2) = zs, fun H2 ⟨G2, a2, y2, q2, x2, A2, k1, k2⟩ => ⟨bs.length - (j + 1), by omega, rfl, hlt1, G2, a2, y2, q2, x2, A2, k1, k2⟩, fun v1 H6 yy => ?_⟩
        obtain ⟨rfl, r'⟩ := yl1 v1 H6 yy
        refine hg1 v1 y _ G5 H6 _ A5.u.gh (S.mono x5 r') fun σ3 p1 => ⟨hw1 x y G5 G5 σ2 σ3 p p1, ?_⟩
        refine ht1 x y σ2 σ3 G5 H6 (u.gg.trans A5.u.gg) (e1.trans A5.u.hh) A5.u.gh p p1 b1 hb1 H6 (Ex.refl _) _ fun H7 e7 => ?_
        have A5 := A5.sc e7
        cases b1 with
        | false => exact ⟨G5, acc5, ys5, rest5, x5, A5, hr5, hz5⟩
        | true =>
          obtain ⟨z, hz', hr5⟩ := bindS hr5
          obtain ⟨t, ht', hr5⟩ := bindS hr5
          cases hr5
          show te σ3 H7 _
          refine he x y σ2 σ3 G5 H7 (u.gg.trans A5.u.gg) (e1.trans A5.u.hh) A5.u.gh p p1 z hz' H7 A5.u.gh (Ex.refl _) _ fun w H8 G8 u8 r8 => ?_
          have A8 := A5.up u8
          refine ⟨acc5, A8.hd, ?_, G8, _, _, t, x5.trans u8.gg, A8.add r8, ht', by rw [← hz5]; simp⟩
          rw [A8.pr.length]
          refine sz_l (n := ys5.length) (decide_eq_true ?_)
          have h9 := of_decide_eq_true hs
          rw [← hz5] at h9
          simp only [List.length_append, List.length_cons] at h9
          omega
      · have ej : j = bs.length := by omega
        subst ej
        rw [List.drop_length] at hr5
        cases hr5
        exact .inl ⟨gx1.1 rfl, G5, acc5, ys5, r2, A5, hr2, hz5⟩
  · have ei : i = xs.length := by omega
    subst ei
    rw [List.drop_length] at hr
    cases hr
    rw [List.append_nil] at hzs
    subst hzs
    obtain ⟨G9, k1, k2, k3⟩ := A.fin
    exact .inl ⟨gx.1 rfl, q D H' G9 (fresh_back u.hh k1) (u.trans k2) k3⟩
theorem mpN {j : Nat} : ∀ x σ1 σ2 G1 G2, Ex G1 G2 → pN R j G1 x σ1 σ2 → pN R j G2 x σ1 σ2 := fun x σ1 σ2 G1 G2 e ⟨v, r, h⟩ => ⟨v, R.mono e r, h⟩
theorem mpP {i j : Nat} : ∀ x σ1 σ2 G1 G2, Ex G1 G2 → pP R S i j G1 x σ1 σ2 → pP R S i j G2 x σ1 σ2 := fun x σ1 σ2 G1 G2 e ⟨v, w, r, t, h⟩ => ⟨v, w, R.mono e r, S.mono e t, h⟩
/-! ### is True, is False; and where the first operand is known -/
end
/-- x is b, x a bool or None -/
def rIsBN (neg : Bool) : R2 := fun x y H Q => ∃ b : Bool, (x = .non ∨ ∃ a : Bool, x = .bl a) ∧ y = .bl b ∧ Q (.bl (if neg then !decide (x = .bl b) else decide (x = .bl b))) H
theorem op_isBN {X : Cx} : OpR X (compareOp .Is) (rIsBN false) := by
  intro pins s σ H x y v u Q I rx ry h
  obtain ⟨b, hx, rfl, q⟩ := h
  cases (show u = Value.bool b from ry)
  rcases hx with rfl | ⟨a, rfl⟩
  · cases (show v = Value.none from rx)
    exact wpAny_is_other rfl (fun z => by cases z) ⟨.bl false, H, I, rfl, by simpa using q⟩
  · cases (show v = Value.bool a from rx)
    by_cases e : a = b
    · subst e
      exact wpAny_is_self rfl ⟨.bl true, H, I, rfl, by simpa using q⟩
    · exact wpAny_is_other rfl (fun z => e (Value.bool.inj z)) ⟨.bl false, H, I, rfl, by simpa [e] using q⟩
theorem op_notBN {X : Cx} : OpR X (compareOp .IsNot) (rIsBN true) := by
  intro pins s σ H x y v u Q I rx ry h
  obtain ⟨b, hx, rfl, q⟩ := h
  cases (show u = Value.bool b from ry)
  rcases hx with rfl | ⟨a, rfl⟩
  · cases (show v = Value.none from rx)
    exact wpAny_isNot_other rfl (fun z => by cases z) ⟨.bl true, H, I, rfl, by simpa using q⟩
  · cases (show v = Value.bool a from rx)
    by_cases e : a = b
    · subst e
      exact wpAny_isNot_self rfl ⟨.bl false, H, I, rfl, by simpa using q⟩
    · exact wpAny_isNot_other rfl (fun z => e (Value.bool.inj z)) ⟨.bl true, H, I, rfl, by simpa [e] using q⟩
section
variable {K : PySem.W.Frag} {σ : L2.St} {G H W : Hp} {te ta : TE} {α : Type}
theorem rr_isBN {neg : Bool} : RR (rIsBN neg) rB rB rB (fun x y => some (if neg then !(x == y) else x == y)) := fun v w x y z H G hv hw hz e Q q => by
  cases hv; cases hw; cases hz
  refine ⟨y, .inr ⟨x, rfl⟩, rfl, q _ H G (Up.refl e) ?_⟩
  cases neg <;> cases x <;> cases y <;> rfl
theorem rr_isBNO {neg : Bool} : RR (rIsBN neg) (rO rB) rB rB (fun x y => some (if neg then !(x == some y) else x == some y)) := fun v w x y z H G hv hw hz e Q q => by
  cases hw; cases hz
  cases x with
  | none => cases (show v = .non from hv); exact ⟨y, .inl rfl, rfl, q _ H G (Up.refl e) (by cases neg <;> cases y <;> rfl)⟩
  | some x => cases (show v = .bl x from hv); exact ⟨y, .inr ⟨x, rfl⟩, rfl, q _ H G (Up.refl e) (by cases neg <;> cases x <;> cases y <;> rfl)⟩
/-- what is never evaluated -/
def tNo : TE := fun _ _ _ => False
theorem pe_no {X : Cx} {e : Expr} : PE X e tNo := ⟨fun _ _ _ _ _ _ h => h.elim⟩
theorem e_andF (h1 : E ta σ G W rB (some false)) : E (tAndV ta tNo) σ G W rB (some false) := fun z hz H e e' Q q => by
  cases hz
  exact h1 _ rfl H e e' _ fun v H1 G1 u1 r1 => ⟨false, r1, q _ H1 G1 u1 rfl⟩
theorem rc_lenP {β : Type} {R : Rep α} {S : Rep β} : RC (rLn K) (aC (rP R S) aN) rI (fun _ => some 2) := fun vs i z H G hv hz e Q q => by
  cases hz
  obtain ⟨v, ws, rfl, ⟨a, x, y, rfl, h2, h3, h4⟩, rfl⟩ := hv
  exact ⟨a, [x, y], rfl, Or.inr (Or.inl (Or.inl (e a _ h2))), q _ H G (Up.refl e) rfl⟩
end
end Sim

/-! static methods, class constants read off the class -/
namespace L2
open PySem PySem.Spec PyProof.Rows
section
variable {X : Cx} {CX : CXT} {k : Nat} {f C p : Addr} {fd : FuncData} {ps : List Str} {sp : Sp} {E : St → XK} {x m : Str} {pos apos : Pos} {e o : Expr} {es : List Expr} {ta : TE} {t : TA}
/-- C.m(e, ..), what is raised wished for at the slots -/
def tStatT (C : Addr) (sp : Sp) (E : St → XK) (to : TE) (t : TA) : TE := fun σ H Q => to σ H fun x H1 => x = .ref C ∧ t σ H1 fun vs H2 => sp vs H2 Q (E σ)
theorem pe_statT {pl : Sem Bool} (he : PE X o ta) (S : Sim.StatOf X.K C m p f) (kp : PySem.W.keepIn X.K (.ref f) = true) (F : FnOk X.prog X.w X.K X.mg X.base CX k f fd ps sp) (hr : Room k X.A) (hb : Binds X.K fd ps []) (hx : ∀ σ, PassesAt CX X σ (E σ)) (ha : PA X (e :: es) t)
    (hst : starEach (e :: es) X.env = (false, eval e X.env) :: starEach es X.env := by rfl) (hpl : (backTo pos (starEach es X.env)).any (·.1) = false := by rfl)
    (ht : eval (.Call (.Attribute o m apos) (e :: es) [] pos) X.env = (do
      let ov ← eval o X.env
      standAt apos.atName
      let (f, first) ← holding [ov] (getMethod ov m pl)
      callWith pos f first (backTo pos (starEach (e :: es) X.env)) (backToKw pos (keywordEach [] X.env))) := by rfl) :
    PE X (.Call (.Attribute o m apos) (e :: es) [] pos) (tStatT C sp E ta t) := by
  refine ⟨fun pins s σ H Q I h => ?_⟩
  refine PySem.W.methodCall_KW (pl := pl) (thn (he.run pins s σ H _ I h) fun u s1 ⟨x, H1, I1, rx, ex, q⟩ => ?_) ht
  subst ex
  obtain rfl : u = Value.ref C := rx
  obtain ⟨mm, hF⟩ := I1.fr
  obtain ⟨rest, rc⟩ := S.rc
  refine PySem.W.method_of_cls hF I1.ok.mod.kin S.ga (PySem.W.cls_sm hF I1.ok.mod.kin S.ty S.rd S.at_ rc S.hd ?_)
  have I1' := I1.tok (s1.toks + 1)
  refine PySem.W.callWith_K (first := []) (h₀ := X.base) I1.ok.mod.kin kp (thn (ha.run pos pins _ σ H1 _ I1' q) fun us s2 ⟨vs, H2, I2, r, q2⟩ => ⟨I2.kIn, ?_⟩) hst hpl
  exact run_fnS (us := us) (vs := vs) F hr hb (hx σ) I2 r q2
end
end L2
namespace Sim
open PySem PySem.Spec PyProof.Rows L2 Evl
section
variable {K : PySem.W.Frag} {σ : L2.St} {G H W : Hp} {ta : TA} {ι γ : Type} {A : AR ι} {T : Rep γ} {C : Addr}
theorem e_statT {f : ι → Option γ} {mi : Option ι} {Wx : L2.St → XK} (ha : EA ta σ G W A mi) : E (tStatT C (PF A T f) Wx (tC (.ref C)) ta) σ G W T (mi >>= f) := fun z hz H e e' Q q => by
  obtain ⟨i, hi, hz⟩ := bindS hz
  refine ⟨rfl, ha i hi H e e' _ fun vs H1 G1 u1 r1 => ?_⟩
  exact ⟨G1, i, z, u1.gh, r1, hz, fun v H2 G2 u2 r2 => q v H2 G2 (u1.trans u2) r2⟩
theorem ex_statT {f : ι → Option (Xn ⊕ γ)} {mi : Option ι} {Wx : L2.St → XK} (ha : EA ta σ G W A mi) : EX K (tStatT C (PX K A T f) Wx (tC (.ref C)) ta) σ G W T (mi >>= f) (Wx σ) := fun z hz H e e' Q qx q => by
  obtain ⟨i, hi, hz⟩ := bindS hz
  refine ⟨rfl, ha i hi H e e' _ fun vs H1 G1 u1 r1 => ?_⟩
  exact ⟨G1, i, z, u1.gh, r1, hz, fun x hx d H2 G2 u2 r2 => qx x hx d H2 G2 (u1.trans u2) r2, fun x hx v H2 G2 u2 r2 => q x hx v H2 G2 (u1.trans u2) r2⟩
def cvalB (C f : Str) (v : Int) (K : PySem.W.Frag) : Bool := PySem.W.readsIn K (He.ga K C) (.type "type") && (decide (PySem.W.specialIn K (.ref (He.ga K C)) "__getattribute__" = some (some (.builtin "type.__getattribute__"))) && (match PySem.W.findCls K (.ref (He.ga K C)) (.type "type") f with
  | some (.val (.int i _)) => i == v
  | _ => false))
theorem e_cval {C f : Str} {v : Int} (h : cvalB C f v K = true) : E (ClX.tCVal K (tC (.ref (He.ga K C))) f) σ G W rI (some v) := fun z hz H e e' Q q => by
  cases hz
  obtain ⟨h1, h⟩ := He.ba h
  obtain ⟨h2, h3⟩ := He.ba h
  cases q2 : PySem.W.findCls K (.ref (He.ga K C)) (.type "type") f with
  | none => rw [q2] at h3; cases h3
  | some d =>
    rw [q2] at h3
    cases d with
    | val u =>
      cases u with
      | int i t =>
        have : i = v := eq_of_beq h3
        subst this
        exact ⟨He.ga K C, .type "type", .int i, .int i t, rfl, ⟨h1, of_decide_eq_true h2⟩, ⟨q2, ⟨t, rfl⟩⟩, q _ H G (Up.refl e) rfl⟩
      | _ => cases h3
    | _ => cases h3
end
end Sim

/-! data of mixed kinds; a pair unpacked; one-clause comprehensions over anything -/
namespace Sim
open PySem L2 Evl
mutual
theorem Dp.up {K : PySem.W.Frag} {H H' : Hp} (e : Ex H H') : ∀ {v : V} {d : PyData}, Dp K H v d → Dp K H' v d
  | _, _, .non => .non
  | _, _, .bl b => .bl b
  | _, _, .int i => .int i
  | _, _, .str x => .str x
  | _, _, .lst h t => .lst (ex_l e h) (DpAll.up e t)
  | _, _, .tup h t => .tup (ex_t e h) (DpAll.up e t)
theorem DpAll.up {K : PySem.W.Frag} {H H' : Hp} (e : Ex H H') : ∀ {vs : List V} {ds : List PyData}, DpAll K H vs ds → DpAll K H' vs ds
  | _, _, .nil => .nil
  | _, _, .cons h t => .cons (Dp.up e h) (DpAll.up e t)
end
/-- any data without dicts -/
def rD (K : PySem.W.Frag) : Rep PyData := ⟨fun H v d => Dp K H v d ∧ d.plain = true ∧ d.depth ≤ 20, fun e ⟨h, r⟩ => ⟨Dp.up e h, r⟩⟩
section
variable {K : PySem.W.Frag} {σ : L2.St} {G H W G0 H0 : Hp} {ls : List Addr} {cs : Cs} {te : TE} {α β γ : Type} {R : Rep α} {S : Rep β} {T : Rep γ} {D : Ends} {tz : TS}
theorem e_toD {d : α → PyData} {n : Nat} {m : Option α} (h : E te σ G W R m) (hd : Dt R d n) (hn : n ≤ 20) : E te σ G W (rD K) (m >>= fun x => some (d x)) := fun z hz H e e' Q q => by
  obtain ⟨x, hx, hz⟩ := bindS hz
  cases hz
  exact h x hx H e e' Q fun v H2 G2 u r => q v H2 G2 u ⟨hd.dp r, hd.lay x, Nat.le_trans (hd.dep x) hn⟩
theorem e_nonD : E (tC .non) σ G W (rD K) (some .none) := fun z hz H e e' Q q => by
  cases hz
  exact q _ H G (Up.refl e) ⟨.non, rfl, Nat.zero_le _⟩
def toDM (d : PyData) : Option PyData := bif decide (d.depth ≤ 20) then some d else none
theorem pr_dpD {H : Hp} : ∀ {vs : List V} {xs : List PyData}, Paired ((rD K).r H) vs xs → DpAll K H vs xs ∧ PyData.plainAll xs = true
  | _, _, .nil => ⟨.nil, rfl⟩
  | _, _, .cons r t => by
    obtain ⟨h1, h2⟩ := pr_dpD t
    exact ⟨.cons r.1 h1, Bool.and_eq_true_iff.mpr ⟨r.2.1, h2⟩⟩
theorem e_toDL {m : Option (List PyData)} (h : E te σ G W (rL (rD K)) m) : E te σ G W (rD K) (m >>= fun xs => toDM (.list xs)) := fun z hz H e e' Q q => by
  obtain ⟨xs, hx, hz⟩ := bindS hz
  unfold toDM at hz
  cases hb : decide ((PyData.list xs).depth ≤ 20) with
  | false => rw [hb] at hz; cases hz
  | true =>
    rw [hb] at hz
    cases hz
    refine h xs hx H e e' Q fun v H2 G2 u r => ?_
    obtain ⟨a, vs, rfl, h2, h3⟩ := r
    obtain ⟨k1, k2⟩ := pr_dpD h3
    exact q _ H2 G2 u ⟨.lst (Or.inl (Or.inl h2)) k1, k2, of_decide_eq_true hb⟩
theorem e_toDT {m : Option (List PyData)} (h : E te σ G W (rT (rD K)) m) : E te σ G W (rD K) (m >>= fun xs => toDM (.tuple xs)) := fun z hz H e e' Q q => by
  obtain ⟨xs, hx, hz⟩ := bindS hz
  unfold toDM at hz
  cases hb : decide ((PyData.tuple xs).depth ≤ 20) with
  | false => rw [hb] at hz; cases hz
  | true =>
    rw [hb] at hz
    cases hz
    refine h xs hx H e e' Q fun v H2 G2 u r => ?_
    obtain ⟨a, vs, rfl, h2, h3⟩ := r
    obtain ⟨k1, k2⟩ := pr_dpD h3
    exact q _ H2 G2 u ⟨.tup (Or.inl (Or.inl h2)) k1, k2, of_decide_eq_true hb⟩
theorem rr_eqDD : RR (rEqP K) (rD K) (rD K) rB (fun x y => some (PyData.eqv x y)) := fun v w x y z H G hv hw hz e Q q => by
  cases hz
  obtain ⟨h1, h2, h3⟩ := (rD K).mono e hv
  obtain ⟨k1, k2, k3⟩ := (rD K).mono e hw
  exact ⟨x, y, h1, k1, ⟨h2, by omega⟩, ⟨k2, by omega⟩, q _ H G (Up.refl e) rfl⟩
theorem rr_neDD : RR (rNeP K) (rD K) (rD K) rB (fun x y => some (!PyData.eqv x y)) := fun v w x y z H G hv hw hz e Q q => by
  cases hz
  obtain ⟨h1, h2, h3⟩ := (rD K).mono e hv
  obtain ⟨k1, k2, k3⟩ := (rD K).mono e hw
  exact ⟨x, y, h1, k1, ⟨h2, by omega⟩, ⟨k2, by omega⟩, q _ H G (Up.refl e) rfl⟩
def noneD : PyData → Bool
  | .none => true
  | _ => false
theorem noneD_ok {v : V} {d : PyData} (h : Dp K H v d) : decide (v = .non) = noneD d := by
  cases h <;> first | rfl | simp [noneD]
theorem rr_isND : RR (fun x y H Q => y = .non ∧ Q (.bl (decide (x = .non))) H) (rD K) rU rB (fun d _ => some (noneD d)) := fun v w o y z H G hv hw hz e Q q => by
  cases hz
  exact ⟨hw, q _ H G (Up.refl e) (congrArg V.bl (noneD_ok hv.1))⟩
theorem rr_notND : RR (fun x y H Q => y = .non ∧ Q (.bl (!decide (x = .non))) H) (rD K) rU rB (fun d _ => some (!noneD d)) := fun v w o y z H G hv hw hz e Q q => by
  cases hz
  exact ⟨hw, q _ H G (Up.refl e) (congrArg (fun b => V.bl (!b)) (noneD_ok hv.1))⟩
theorem nnObjD : True := trivial
/-- a, b = e -/
theorem x_unpk {i j : Nat} {m : Option (α × β)} {x : α × β} (w : Wo G0 H0 ls G H cs) (h : E te σ G H (rP R S) m) (hm : m = some x) (k : ∀ u v H2 G2, Wo G0 H0 ls G2 H2 cs → Ex G G2 → R.r G2 u x.1 → S.r G2 v x.2 → tz D ((σ.set i (some u)).set j (some v)) H2) :
    tSeq (tAsg te (gTup K 2 (gCons (gName i) (gCons (gName j) gNil)))) tz D σ H :=
  c_e (Q := fun x H1 => gTup K 2 (gCons (gName i) (gCons (gName j) gNil)) x σ H1 (tz D)) w h hm fun v H2 G2 w2 e r => g_pair r w2.ex fun u v r1 r2 => k u v H2 G2 w2 e r1 r2
theorem o_unpk {i j : Nat} {v : V} {p : α × β} {Q : L2.St → Hp → Prop} (r : (rP R S).r G v p) (e : Ex G H) (k : ∀ x y, R.r G x p.1 → S.r G y p.2 → Q ((σ.set i (some x)).set j (some y)) H) : gTup K 2 (gCons (gName i) (gCons (gName j) gNil)) v σ H Q := g_pair r e k
theorem x_asgO {g : TG} (h : te σ H fun v H1 => g v σ H1 (tz D)) : tSeq (tAsg te g) tz D σ H := h
end
section
variable {K : PySem.W.Frag} {σ : L2.St} {G H W : Hp} {te : TE} {tt : TT} {α γ : Type} {R : Rep α} {T : Rep γ} {wi : TI} {g : TG}
/-- [e2 for x in xs if f1] -/
theorem el_lc1 {vs : List Nat} {m : Option (List α)} {f1 : α → Option Bool} {e2 : α → Option γ} {P : Hp → α → L2.St → L2.St → Prop}
    (h : Src wi σ G W R m) (hg : Tgt g R P) (hw : ∀ x G' σ2, P G' x (wipe σ vs) σ2 → wipe σ2 vs = wipe σ vs)
    (ht : ∀ x σ2 G' W', Ex G G' → Ex W W' → Ex G' W' → P G' x (wipe σ vs) σ2 → ET tt σ2 W' (f1 x))
    (he : ∀ x σ2 G' W', Ex G G' → Ex W W' → Ex G' W' → P G' x (wipe σ vs) σ2 → E te σ2 G' W' T (e2 x)) :
    EL (tLc wi g tt te vs) σ G W T (m >>= fun xs => lcS f1 e2 xs) := fun zs hz H e e' Q q => by
  obtain ⟨xs, hx, hz⟩ := bindS hz
  obtain ⟨hs, hz⟩ := lcS_ok hz
  refine h xs hx H e e' _ fun J H1 G1 u gs D hD => ?_
  have e1 : Ex W H1 := e'.trans u.hh
  refine ⟨fun i n H' => n = xs.length - i ∧ i ≤ xs.length ∧ ∃ G' acc ys rest, Acc G1 H1 T D G' H' acc ys ∧ lcM f1 e2 (xs.drop i) = some rest ∧ ys ++ rest = zs ∧ ys.length ≤ i, ⟨_, rfl, Nat.zero_le _, G1, [], [], zs, Acc.start u.gh hD, hz, rfl, Nat.le_refl _⟩, ?_⟩
  rintro i n H' ⟨rfl, hi', G', acc, ys, rest, A, hr, hzs, hyl⟩
  have gx := gs i H' (A.u.gg.trans A.u.gh)
  by_cases hlt : i < xs.length
  · obtain ⟨x, hx⟩ : ∃ x, xs[i]? = some x := ⟨_, List.getElem?_eq_getElem hlt⟩
    obtain ⟨go, yl⟩ := gx.2 x hx
    rw [drop_at hx] at hr
    obtain ⟨b, hb, hr⟩ := bindS hr
    refine .inr ⟨go, fun H' => ∃ G' acc ys rest, Acc G1 H1 T D G' H' acc ys ∧ lcM f1 e2 (xs.drop (i + 1)) = some rest ∧ ys ++ rest = zs ∧ ys.length ≤ i + 1, fun H2 ⟨G2, a2, y2, r2, A2, k1, k2, k3⟩ => ⟨xs.length - (i + 1), by omega, rfl, hlt, G2, a2, y2, r2, A2, k1, k2, k3⟩, fun v H2 y => ?_⟩
    obtain ⟨rfl, r⟩ := yl v H2 y
    refine hg v x _ G' H2 _ A.u.gh (R.mono A.u.gg r) fun σ2 p => ⟨hw x G' σ2 p, ?_⟩
    refine ht x σ2 G' H2 (u.gg.trans A.u.gg) (e1.trans A.u.hh) A.u.gh p b hb H2 (Ex.refl _) _ fun H3 e3 => ?_
    have A := A.sc e3
    cases b with
    | false => exact ⟨G', acc, ys, rest, A, hr, hzs, by omega⟩
    | true =>
      obtain ⟨z, hz', hr⟩ := bindS hr
      obtain ⟨t, ht', hr⟩ := bindS hr
      cases hr
      show te σ2 H3 _
      refine he x σ2 G' H3 (u.gg.trans A.u.gg) (e1.trans A.u.hh) A.u.gh p z hz' H3 A.u.gh (Ex.refl _) _ fun w H8 G8 u8 r8 => ?_
      have A8 := A.up u8
      refine ⟨acc, A8.hd, ?_, G8, _, _, t, A8.add r8, ht', by rw [← hzs]; simp, by simp; omega⟩
      rw [A8.pr.length]
      refine sz_l (n := ys.length) (decide_eq_true ?_)
      have h9 := of_decide_eq_true hs
      omega
  · have ei : i = xs.length := by omega
    subst ei
    rw [List.drop_length] at hr
    cases hr
    rw [List.append_nil] at hzs
    subst hzs
    obtain ⟨G9, k1, k2, k3⟩ := A.fin
    exact .inl ⟨gx.1 rfl, q D H' G9 (fresh_back u.hh k1) (u.trans k2) k3⟩
end
end Sim

/-! dicts -/
namespace Sim
open PySem L2 Evl
/-- a dict: its entries in order; kf: how a key stands -/
def rM {κ α : Type} (kf : κ → Key) (R : Rep α) : Rep (List (κ × α)) := ⟨fun H v kvs => ∃ a ws, v = .ref a ∧ H a = some (.dK ws) ∧ Paired (fun (p : Key × V) (q : κ × α) => p.1 = kf q.1 ∧ R.r H p.2 q.2) ws kvs,
  fun e ⟨a, ws, h1, h2, h3⟩ => ⟨a, ws, h1, e a _ h2, Paired.mapP h3 fun _ _ h => ⟨h.1, R.mono e h.2⟩⟩⟩
section
variable {K : PySem.W.Frag} {σ : L2.St} {G H W : Hp} {κ α β γ : Type} {kf : κ → Key} {R : Rep α}
theorem ktM : KTy (rM kf R) "dict" := fun ⟨a, ws, h, h2, _⟩ => by rw [h]; exact .base (.dK h2)
theorem e_dnew : E tDNewK σ G W (rM kf R) (some []) := fun z hz H e e' Q q => by
  cases hz
  intro p hp
  exact q _ (upd H p (.dK [])) (upd G p (.dK [])) (Up.lay e hp) ⟨p, [], rfl, upd_same, .nil⟩
/-- a < b < c -/
theorem e_chain {ta tb tc : TE} {r r' : R2} {S : Rep β} {T : Rep γ} {f : α → β → Option Bool} {g : β → γ → Option Bool} {ma : Option α} {mb : Option β} {mc : Option γ} (hr : RR r R S rB f) (hr' : RR r' S T rB g)
    (ha : E ta σ G W R ma) (hb : E tb σ G W S mb) (hc : E tc σ G W T mc) : E (tChain r r' ta tb tc) σ G W rB (ma >>= fun x => mb >>= fun y => andO (f x y) (mc >>= fun z => g y z)) := fun z hz H e e' Q q => by
  obtain ⟨x, hx, hz⟩ := bindS hz
  obtain ⟨y, hy, hz⟩ := bindS hz
  obtain ⟨b, hb', hz⟩ := bindS hz
  refine ha x hx H e e' _ fun v H1 G1 u1 r1 => ?_
  refine (hb.mono u1.gg (e'.trans u1.hh)) y hy H1 u1.gh (Ex.refl _) _ fun w H2 G2 u2 r2 => ?_
  refine hr v w x y b H2 G2 (R.mono u2.gg r1) r2 hb' u2.gh _ fun u H3 G3 u3 r3 => ?_
  cases r3
  refine ⟨b, rfl, ?_⟩
  cases b with
  | false =>
    have hz : some false = some z := hz
    cases hz
    rw [if_neg (by decide)]
    exact q _ H3 G3 ((u1.trans u2).trans u3) rfl
  | true =>
    rw [if_pos rfl]
    obtain ⟨c, hc', hz⟩ := bindS (show (mc >>= fun z => g y z) = some z from hz)
    refine (hc.mono ((u1.gg.trans u2.gg).trans u3.gg) (((e'.trans u1.hh).trans u2.hh).trans u3.hh)) c hc' H3 u3.gh (Ex.refl _) _ fun w4 H4 G4 u4 r4 => ?_
    exact hr' w w4 y c z H4 G4 (S.mono (u3.gg.trans u4.gg) r2) r4 hz u4.gh Q fun u5 H5 G5 up5 r5 => q u5 H5 G5 ((((u1.trans u2).trans u3).trans u4).trans up5) r5
end
end Sim

set_option maxHeartbeats 2000000
/-! own iterables: __iter__ gives iter(a list of theirs) -/
namespace L2
open PySem PySem.Spec PyProof.Rows ItX
/-- a def whose promise may speak of how many objects there are when it is called -/
structure FnOkS (P : Program) (w : World) (K : PySem.W.Frag) (mg : Str → Option Value) (base : Heap) (k : Nat) (f : Addr) (fd : FuncData) (ps : List Str) (sp : Nat → Sp) : Prop where
  len : ∀ n vs H Q E, sp n vs H Q E → vs.length = ps.length
  run : ∀ (A : Around) (outer : List Env) (s : Shared) (H : Hp) (args : Args) (us : List Value) (vs : List V) (Q : VK) (E : XK), Room k A → Env0 P w K mg base A outer s H → BindsTo s fd args (ps.zip us) → Vals vs us → sp s.heap.objs.size vs H Q E →
    codeAny (model P w) A (.call (.ref f) args) (CR CX0 outer P w H s Q E) s
theorem FunD.okS {P : Program} {w : World} {K : PySem.W.Frag} {mg : Str → Option Value} {base : Heap} {x qual : Str} {params : Arguments} {body : List Stmt} {scope : Scope} {dvs : List V} {kws : List (Str × V)} {f : Addr} {fd : FuncData}
    {N ps : List Str} {k : Nat} {sp : Nat → Sp} (F : FunD K x qual params body scope dvs kws f fd) (S : FnScope N ps scope) (len : ∀ n vs H Q E, sp n vs H Q E → vs.length = ps.length)
    (hbody : ∀ (cdv : Value) (A : Around) (outer : List Env) (s : Shared) (H : Hp) (vs : List V) (Q : VK) (E : XK), Room k (A.deeper (envOfC qual scope s.heap.objs.size f cdv)) → sp s.heap.objs.size vs H Q E →
      ∃ t, PSs (cxOf CX0 P w K mg base N qual scope f cdv A outer s H E) body t ∧ t { nx := fun _ H' => Q .non H', rt := Q } (start N vs) H) : FnOkS P w K mg base (k + 1) f fd ps sp := by
  obtain ⟨oc, od, dV, kV, doc, pm, an, cdv, ct, osl, rfl, lk, hcd, _, _⟩ := F.ex
  refine ⟨len, fun A outer s H args us vs Q E hr e0 hb r hsp => ?_⟩
  have hl := len _ _ _ _ _ hsp
  have KX : K.In s.heap := e0.mod.kin.keeps fun b o e => (e0.bs b o e).1
  have lim : s.heap.NoLimit := e0.mod.nolimit.keeps fun b o e => (e0.bs b o e).1
  have hkind : ∀ y ∈ ps.zip us, scope.names.lookup y.1 = some .local ∨ (scope.names.lookup y.1 = some .cell ∧ ((cellsFrom (s.heap.objs.size + 1) scope.names []).lookup y.1).isSome = true) := fun ⟨n, v⟩ hy => by
    rcases S.par n (List.of_mem_zip hy).1 with q | q
    · exact .inl q
    · exact .inr ⟨q, PySem.W.cellsFrom_some _ _ _ (.inl q)⟩
  refine codeAny_call_function hr.depth (KX _ _ lk) rfl S.co S.gen rfl (PySem.W.codeRec_of KX hcd) (hb _ _ _ _ ?_)
  refine wpAny_newFunctionEnv_cells S.kind hkind fun env he s1 x => ?_
  subst he
  refine ⟨lim.keeps x.toInCall.keep, codeAny_func ?_⟩
  obtain ⟨t, ht, hq⟩ := hbody cdv A outer s H vs Q E (hr.deeper _) hsp
  have I : Inv (cxOf CX0 P w K mg base N qual scope f cdv A outer s H E) [] (start N vs) H s1 := inv_start S hr.hd e0 hl r x
  refine wpAny_mono (ht.run [] s1 (start N vs) H _ I hq) (fun fl s' hs => ?_) fun e s' hs => hs
  have fin : ∀ {σ' : St} {H' : Hp} {v : V} {u : Value}, Inv (cxOf CX0 P w K mg base N qual scope f cdv A outer s H E) [] σ' H' s' → RelV v u → Q v H' → CE outer P w H s Q u s' :=
    fun {σ' H' v u} J rv q => ⟨v, H', J.os, J.bare, J.base, J.hok, rv, q⟩
  cases fl with
  | ret u =>
    obtain ⟨v, σ', H', J, rv, q⟩ := hs
    exact fin J rv q
  | next =>
    obtain ⟨σ', H', J, q⟩ := hs
    exact fin (v := V.non) (u := Value.none) J rfl q
  | brk =>
    obtain ⟨_, _, _, q⟩ := hs
    exact False.elim q
  | cont =>
    obtain ⟨_, _, _, q⟩ := hs
    exact False.elim q
/-- what such an __iter__ promises: an iterator over the list in the field f -/
def spIter (K : PySem.W.Frag) (C : Addr) (f : Str) : Nat → Sp := fun n vs H Q _ => ∃ a dx fs l zs, vs = [.ref a] ∧ H a = some (.ins C dx fs) ∧ fs.lookup f = some (.ref l) ∧ SqL K H l zs ∧
  ∀ it, H it = Option.none → n ≤ it → Q (.ref it) (upd H it (ItO l it 0))
section
variable {X : Cx} {k j : Nat} {fi C : Addr} {fd : FuncData} {ps : List Str} {pins : List (Addr × Obj)} {σ : St} {H : Hp} {s : Shared} {te : TE} {f : Str}
theorem run_spS {A : Around} {Q : VK} {us : List Value} {vs : List V} {E : XK} {sp : Nat → Sp} (F : FnOkS X.prog X.w X.K X.mg X.base k fi fd ps sp) (hr : Room k A) (hfr : A.frames = X.A.frames) (hb : Binds X.K fd ps [])
    (I : Inv X pins σ H s) (r : Vals vs us) (h : sp s.heap.objs.size vs H Q E) : wpAny (model X.prog X.w) A (call (.ref fi) us) (EP X pins σ Q) X.xe s := by
  have hl : us.length = ps.length := by rw [← r.length]; exact F.len _ _ _ _ _ h
  have b := hb s us I.kIn (by rw [List.append_nil]; exact hl)
  rw [List.append_nil] at b
  have e := I.env0
  have e0 : Env0 X.prog X.w X.K X.mg X.base A X.stack s H := ⟨by rw [hfr]; exact e.frames, e.mod, e.bs, e.bsz, e.funs, e.frf, e.hok, e.bare⟩
  refine wpAny_call (codeAny_mono (F.run A X.stack s H ⟨us, []⟩ us vs Q E hr e0 b r h) fun r s' hq => ?_)
  cases r with
  | error e => exact (passAt0 (E := E)) pins H s e s' I hq
  | ok fl =>
    cases fl with
    | ret u => exact I.after hq
    | next => exact False.elim hq
    | brk => exact False.elim hq
    | cont => exact False.elim hq
/-- iter(o): the iterator is tracked -/
theorem own_iter {A : Around} {Q : Value → Shared → Prop} {a dx l : Addr} {fs : List (Str × V)} {zs : List V} (F : FnOkS X.prog X.w X.K X.mg X.base k fi fd ps (spIter X.K C f)) (hr : Room k A) (hfr : A.frames = X.A.frames) (M : Meth X.K C "__iter__" fi) (hb : Binds X.K fd ps [])
    (I : Inv X pins σ H s) (ha : H a = some (.ins C dx fs)) (hf : fs.lookup f = some (.ref l)) (hl : SqL X.K H l zs)
    (h : ∀ it s', H it = Option.none → X.s_0.heap.objs.size ≤ it → Inv X pins σ (upd H it (ItO l it 0)) s' → Q (.ref it) s') : wpAny (model X.prog X.w) A (pyIter (.ref a)) Q X.xe s := by
  obtain ⟨mA, J, _⟩ := ins_get I.hok ha
  obtain ⟨od, J, _⟩ := J.look
  obtain ⟨m, hF⟩ := I.fr
  refine PySem.W.owit_iter hF I.ok.mod.kin J M.at_ M.fn ?_
  refine wpAny_mono (run_spS (us := [.ref a]) (vs := [.ref a]) (Q := fun v H' => ∃ it, v = .ref it ∧ H it = Option.none ∧ s.heap.objs.size ≤ it ∧ H' = upd H it (ItO l it 0)) (E := E0) F hr hfr hb I (.cons rfl .nil) ⟨a, dx, fs, l, zs, rfl, ha, hf, hl, fun it h1 h2 => ⟨it, rfl, h1, h2, rfl⟩⟩) (fun v s' hv => ?_) fun _ _ z => z
  obtain ⟨z, H', I', rz, it, rfl, h1, h2, rfl⟩ := hv
  cases rz
  have eo := itO_get I' upd_same
  have hT : s'.TypeIs (.ref it) "list_iterator" := ⟨_, eo, rfl⟩
  unfold PySem.W.OwitIt
  exact wpAny_specialOf (name := Str.ofString "__next__") hT slot_listiter_next.lookup (h it s' h1 (Nat.le_trans I.sz h2) I')
def iOwn (K : PySem.W.Frag) (C : Addr) (f : Str) (te : TE) : TI := fun σ H R => te σ H fun x H1 => ∃ a dx fs l zs, x = .ref a ∧ H1 a = some (.ins C dx fs) ∧ fs.lookup f = some (.ref l) ∧ SqL K H1 l zs ∧ R (Itl K l) H1
/-- for x in o -/
theorem pi_own {tg e : Expr} (F : FnOkS X.prog X.w X.K X.mg X.base k fi fd ps (spIter X.K C f)) (hr : Room k X.A) (M : Meth X.K C "__iter__" fi) (hb : Binds X.K fd ps []) (he : PE X e te) : PI X tg e (iOwn X.K C f te) := by
  refine ⟨fun pins s σ H R I h => ?_⟩
  refine thn (he.run pins s σ H _ I h) fun v s1 ⟨x, H1, I1, r1, a, dx, fs, l, zs, ex, ha, hf, hl, q⟩ => ?_
  subst ex
  cases r1
  refine own_iter F hr rfl M hb I1 ha hf hl fun it s' h1 h2 I' => ?_
  have hi : upd H1 it (ItO l it 0) it = some (ItO l it 0) := upd_same
  have eo := itO_get I' hi
  have I2 := inv_drop (φ := fun h => h.get? it = some (GNX.itObj l 0)) I' hi
  have fp := inv_fp I' hi h2
  rw [show dropH (upd H1 it (ItO l it 0)) it = H1 from dropH_upd h1] at fp I2
  refine ⟨it, [it], _, _, H1, rfl, I2, turn_list l it, ⟨_, eo, rfl, rfl⟩, fun b hb => ?_, q⟩
  have e : b = it := by simpa using hb
  rw [e]
  exact fp

/-! ### list(o) -/
theorem run_sp0 {A : Around} {Q : VK} {us : List Value} {vs : List V} {E : XK} {sp : Sp} {Ex : Value → Shared → Prop} (F : FnOk X.prog X.w X.K X.mg X.base CX0 k fi fd ps sp) (hr : Room k A) (hfr : A.frames = X.A.frames) (hb : Binds X.K fd ps [])
    (I : Inv X pins σ H s) (r : Vals vs us) (h : sp vs H Q E) : wpAny (model X.prog X.w) A (call (.ref fi) us) (EP X pins σ Q) Ex s := by
  have hl : us.length = ps.length := by rw [← r.length]; exact F.len _ _ _ _ h
  have b := hb s us I.kIn (by rw [List.append_nil]; exact hl)
  rw [List.append_nil] at b
  have e := I.env0
  have e0 : Env0 X.prog X.w X.K X.mg X.base A X.stack s H := ⟨by rw [hfr]; exact e.frames, e.mod, e.bs, e.bsz, e.funs, e.frf, e.hok, e.bare⟩
  refine wpAny_call (codeAny_mono (F.run A X.stack s H ⟨us, []⟩ us vs Q E hr e0 b r h) fun r s' hq => ?_)
  cases r with
  | error e => exact False.elim hq
  | ok fl =>
    cases fl with
    | ret u => exact I.after hq
    | next => exact False.elim hq
    | brk => exact False.elim hq
    | cont => exact False.elim hq
variable {fl : Addr} {fdl : FuncData} {psl : List Str} {spl : Sp}
theorem if_yes {α : Type} {M : Model} {A : Around} {E : Value → Shared → Prop} {s : Shared} {c : Bool} {a b : Sem α} {Q : α → Shared → Prop} (hc : c = true) (h : wpAny M A a Q E s) : wpAny M A (if c = true then a else b) Q E s := by
  subst hc; rw [if_pos rfl]; exact h
theorem own_hintL {A : Around} {Q : Bool → Shared → Prop} {a dx : Addr} {fs : List (Str × V)} (F : FnOk X.prog X.w X.K X.mg X.base CX0 k fl fdl psl spl) (hr : Room (k + 1) A) (hfr : A.frames = X.A.frames) (M : Meth X.K C "__len__" fl) (hb : Binds X.K fdl psl [])
    (I : Inv X pins σ H s) (ha : H a = some (.ins C dx fs)) (hsp : spl [.ref a] H (fun v H' => ∃ n : Int, v = .int n ∧ 0 ≤ n ∧ n < 100000 ∧ Evl.Ex H H') E0)
    (h : ∀ b s' H', Evl.Ex H H' → Inv X pins σ H' s' → Q b s') : wpAny (model X.prog X.w) A (Builtin.List.listLengthHint (.ref a)) Q X.xe s := by
  obtain ⟨mA, J, _⟩ := ins_get I.hok ha
  obtain ⟨od, J, _⟩ := J.look
  obtain ⟨m, hF⟩ := I.fr
  unfold Builtin.List.listLengthHint
  refine wpAny_bind (wpAny_bind (J.type.here ((PySem.W.looks_findIn I.kIn M.at_).here ?_)))
  refine PySem.W.KFB.if_not rfl ?_
  refine if_yes rfl ?_
  refine wpAny_bind (wpAny_rule ?_)
  refine wpAny_bind (wpAny_attempt ?_)
  refine PySem.W.len_K hF I.ok.mod.kin J M.at_ M.fn ?_
  refine wpAny_mono (run_sp0 (us := [.ref a]) (vs := [.ref a]) F hr.in1 hfr hb I (.cons rfl .nil) hsp) (fun v s' hv => ?_) fun _ _ z => z
  · obtain ⟨z, H', I', rz, n, rfl, h0, h1, h2⟩ := hv
    obtain ⟨t, rfl⟩ : ∃ t, v = .int n t := rz
    refine ⟨⟨h0, by omega⟩, ?_⟩
    refine wpAny_bind (m := asInt? (.int n _)) (wpAny_pure ?_)
    refine PySem.W.KFB.if_not (notLongL (by rw [sizeLine_eq]; omega)) ?_
    exact wpAny_pure (h _ _ _ h2 (I'.tok _))
/-- the rest of the list at l goes into the list at q -/
theorem iter_loop {A1 : Around} {it l q : Addr} {zs : List V} {res : Value} {Rs : Result → Shared → Prop} {H0 : Hp} (hh : A1.in1.handled = none) (hit : H0 it = Option.none) (hq : H0 q = Option.none) (hne : q ≠ it) (hyo : X.s_0.heap.objs.size ≤ it)
    (hl : SqL X.K H0 l zs) (hz : zs.length ≤ 100000) (hdone : ∀ s, Inv X pins σ (upd H0 q (.lst zs)) s → Rs (.ok (.ret res)) s) :
    ∀ (m i : Nat) (s : Shared), m = zs.length - i → i ≤ zs.length → Inv X pins σ (upd (upd H0 q (.lst (zs.take i))) it (ItO l it i)) s →
      codeAny (model X.prog X.w) A1 (.builtin "list.extend.loop" ⟨[.ref q, .ref it, res], []⟩) Rs s := by
  have ex : ∀ i, Evl.Ex H0 (upd (upd H0 q (.lst (zs.take i))) it (ItO l it i)) := fun i => Evl.Ex.mut (Evl.Ex.mut (Evl.Ex.refl _) hq) hit
  intro m
  induction m with
  | zero =>
    intro i s hm hi I
    have : i = zs.length := by omega
    subst this
    refine codeAny_builtin PySem.F.entry_extend_loop ?_
    rw [Around.under_plainId PySem.F.plain_extend_loop _]
    show wpAny _ A1.in1 (pyNext (.ref it) >>= _) _ _ s
    have e1 : upd (upd H0 q (.lst (zs.take zs.length))) it (ItO l it zs.length) it = some (ItO l it zs.length) := upd_same
    have eo := itO_get I e1
    obtain ⟨its, rv, pl, _⟩ := I.list (Evl.ex_l (ex zs.length) hl)
    refine wpAny_bind (wpAny_pyNext_list_end hh ⟨_, eo, rfl, rfl⟩ pl.isList (i := zs.length) ?_ fun h' hE => ?_)
    · rw [List.getElem?_toArray]
      exact rv.none_of (by simp)
    · have I2 := inv_drop (φ := fun h => h.get? it = some (GNX.itObj l zs.length)) I e1
      have fp := inv_fp I e1 hyo
      have hn : upd H0 q (.lst (zs.take zs.length)) it = Option.none := by rw [upd_ne (Ne.symm hne)]; exact hit
      rw [show dropH (upd (upd H0 q (.lst (zs.take zs.length))) it (ItO l it zs.length)) it = upd H0 q (.lst (zs.take zs.length)) from dropH_upd hn, List.take_length] at fp I2
      have I3 := I2.turnedL (h' := h') (t' := s.toks) (ch := [it]) (fun b o hb e => hE b o (by simpa using hb) e) (fun b hb => by
        have : b = it := by simpa using hb
        rw [this]; exact fp)
      exact wpAny_pure (hdone _ I3)
  | succ m ih =>
    intro i s hm hi I
    have hlt : i < zs.length := by omega
    refine codeAny_builtin PySem.F.entry_extend_loop ?_
    rw [Around.under_plainId PySem.F.plain_extend_loop _]
    show wpAny _ A1.in1 (pyNext (.ref it) >>= _) _ _ s
    have e1 : upd (upd H0 q (.lst (zs.take i))) it (ItO l it i) it = some (ItO l it i) := upd_same
    have eo := itO_get I e1
    obtain ⟨its, rv, pl, _⟩ := I.list (Evl.ex_l (ex i) hl)
    obtain ⟨u, hu, ru⟩ := rv.get (show zs[i]? = some zs[i] from List.getElem?_eq_getElem hlt)
    have hT : s.TypeIs (.ref it) "list_iterator" := ⟨_, eo, rfl⟩
    refine wpAny_bind ?_
    unfold pyNext
    refine wpAny_bind (wpAny_attempt (wpAny_callSpecial?_slot (name := Str.ofString "__next__") hT slot_listiter_next (wpAny_call_entry slot_listiter_next hT entry_listiter_next ?_ (args_listiter_next _))))
    refine GNX.next_item eo pl.isList (by rw [List.getElem?_toArray]; exact hu) fun h' e' sb => ?_
    refine wpAny_pure ?_
    have mu : Mut (upd (upd H0 q (.lst (zs.take i))) it (ItO l it i) it) := by rw [e1]; exact True.intro
    have I2 : Inv X pins σ (upd (upd (upd H0 q (.lst (zs.take i))) it (ItO l it i)) it (ItO l it (i + 1))) { s with heap := h' } := I.write (x := it) (e := it) (t' := s.toks) mu (.inl rfl) (fun b o nb z => (sb.2 b nb).trans z) ⟨_, e'⟩ (itO_ok e')
    rw [upd_upd] at I2
    have eq : upd (upd H0 q (.lst (zs.take i))) it (ItO l it (i + 1)) q = some (.lst (zs.take i)) := by rw [upd_ne hne]; exact upd_same
    obtain ⟨z, its2, k2, r2, hl2, e2⟩ := I2.lstM eq
    show wpAny _ A1.in1 (updateSeq q (·.push u) >>= _) _ _ _
    have hlen : (zs.take i).length = i := by rw [List.length_take]; omega
    refine wpAny_bind (wpAny_updateSeq e2 rfl (wpAny_pure ⟨plainId_quiet PySem.F.plain_extend_loop _, ?_⟩) (by rw [List.size_toArray, sizeLine_eq]; omega) (by show (its2.toArray.push u).size ≤ sizeLine + 1; rw [Array.size_push, List.size_toArray, sizeLine_eq]; omega))
    have I3 := I2.lset (f := (·.push u)) (its' := its2 ++ [u]) (ys := zs.take i ++ [zs[i]]) (t' := s.toks) eq e2 (by simp) (r2.append (.cons ru .nil)) (by rw [List.length_append, List.length_singleton, sizeLine_eq]; omega)
    have eH : upd (upd (upd H0 q (.lst (zs.take i))) it (ItO l it (i + 1))) q (.lst (zs.take i ++ [zs[i]])) = upd (upd H0 q (.lst (zs.take (i + 1)))) it (ItO l it (i + 1)) := by
      funext b
      by_cases h1 : b = q
      · subst h1; rw [upd_same, upd_ne hne, upd_same, List.take_succ_eq_append_getElem hlt]
      · rw [upd_ne h1]
        by_cases h2 : b = it
        · subst h2; rw [upd_same, upd_same]
        · rw [upd_ne h2, upd_ne h2, upd_ne h1, upd_ne h1]
    rw [eH] at I3
    exact ih (i + 1) _ (by omega) (by omega) I3
/-- q.extend(o), q a new list -/
theorem own_extendI {A1 : Around} {a q l dx : Addr} {fs : List (Str × V)} {zs : List V} {res : Value} {Rs : Result → Shared → Prop} {H0 : Hp} (hh : A1.in1.handled = none) (hr : Room (k + 1) A1) (hfr : A1.frames = X.A.frames)
    (F : FnOkS X.prog X.w X.K X.mg X.base k fi fd ps (spIter X.K C f)) (M : Meth X.K C "__iter__" fi) (hb : Binds X.K fd ps [])
    (Fl : FnOk X.prog X.w X.K X.mg X.base CX0 k fl fdl psl spl) (Ml : Meth X.K C "__len__" fl) (hbl : Binds X.K fdl psl [])
    (ha : H0 a = some (.ins C dx fs)) (hf : fs.lookup f = some (.ref l)) (hl : SqL X.K H0 l zs) (hz : zs.length ≤ 100000) (hq : H0 q = Option.none) (hQ : upd H0 q (.lst []) = H)
    (hsp : ∀ H1, Evl.Ex H0 H1 → spl [.ref a] H1 (fun v H' => ∃ n : Int, v = .int n ∧ 0 ≤ n ∧ n < 100000 ∧ Evl.Ex H1 H') E0)
    (I : Inv X pins σ H s) (hdone : ∀ H2 s, Evl.Ex H0 H2 → H2 q = Option.none → Inv X pins σ (upd H2 q (.lst zs)) s → Rs (.ok (.ret res)) s) :
    wpAny (model X.prog X.w) A1 (Builtin.List.listExtendWith (.ref q) (.ref a) res)
      (fun fin s' => match fin with | .done f => Rs (.ok f) s' | .again c' => c'.quiet = true ∧ ∀ A2 : Around, A2.in1.handled = none → codeAny (model X.prog X.w) A2 c' Rs s') X.xe s := by
  subst hQ
  have hne : q ≠ a := fun z => by rw [z, ha] at hq; cases hq
  have ha' : upd H0 q (.lst []) a = some (.ins C dx fs) := by rw [upd_ne (Ne.symm hne)]; exact ha
  obtain ⟨mA, J, _⟩ := ins_get I.hok ha'
  obtain ⟨od, J, _⟩ := J.look
  unfold Builtin.List.listExtendWith
  refine wpAny_bind (J.type.here ?_)
  have h1 : Builtin.List.listSameRef (.ref q) (.ref a) = false := by simp [Builtin.List.listSameRef, hne]
  have h2 : (Value.ref C == Value.type "list") = false := rfl
  have h3 : (Value.ref C == Value.type "tuple") = false := rfl
  simp only [h1, h2, h3, Bool.or_false, Bool.false_eq_true, if_false]
  have e0q : Evl.Ex H0 (upd H0 q (.lst [])) := Evl.Ex.new hq
  refine wpAny_bind (own_iter F (hr.mono (Nat.le_succ _)) hfr M hb I ha' hf (Evl.ex_l e0q hl) fun it s' hit hyo I' => ?_)
  have hqi : q ≠ it := fun z => by rw [← z, upd_same] at hit; cases hit
  have hit0 : H0 it = Option.none := by rw [upd_ne (Ne.symm hqi)] at hit; exact hit
  have e0i : Evl.Ex H0 (upd (upd H0 q (.lst [])) it (ItO l it 0)) := Evl.Ex.mut e0q hit0
  refine wpAny_bind (wpAny_holding (own_hintL Fl hr hfr Ml hbl I' (e0i a _ ha) (hsp _ e0i) fun b s2 H3 e3 I2 => ?_))
  have eq0 : upd (upd H0 q (.lst [])) it (ItO l it 0) q = some (.lst []) := by rw [upd_ne hqi]; exact upd_same
  have eq : H3 q = some (.lst []) := e3 q _ eq0
  have ei : H3 it = some (ItO l it 0) := e3 it _ upd_same
  let H2 : Hp := fun b => if b = q then Option.none else if b = it then Option.none else H3 b
  have g1 : H2 q = Option.none := if_pos rfl
  have g2 : H2 it = Option.none := by show (if it = q then Option.none else if it = it then Option.none else H3 it) = _; rw [if_neg (Ne.symm hqi), if_pos rfl]
  have g3 : upd (upd H2 q (.lst [])) it (ItO l it 0) = H3 := by
    funext b
    by_cases b1 : b = it
    · subst b1; rw [upd_same, ei]
    · rw [upd_ne b1]
      by_cases b2 : b = q
      · subst b2; rw [upd_same, eq]
      · rw [upd_ne b2]
        show (if b = q then Option.none else if b = it then Option.none else H3 b) = _
        rw [if_neg b2, if_neg b1]
  have g4 : Evl.Ex H0 H2 := fun b o hb => by
    have b1 : b ≠ it := fun z => by rw [z, hit0] at hb; cases hb
    have b2 : b ≠ q := fun z => by rw [z, hq] at hb; cases hb
    show (if b = q then Option.none else if b = it then Option.none else H3 b) = _
    rw [if_neg b2, if_neg b1]
    exact e3 b o (e0i b o hb)
  have go : ∀ s3, Inv X pins σ H3 s3 → ∀ A2 : Around, A2.in1.handled = none → codeAny (model X.prog X.w) A2 (.builtin "list.extend.loop" ⟨[.ref q, .ref it, res], []⟩) Rs s3 := fun s3 I3 A2 hA => iter_loop hA g2 g1 hqi hyo (Evl.ex_l g4 hl) hz (fun s I => hdone H2 s g4 g1 I) zs.length 0 s3 (by omega) (by omega) (by rw [List.take_zero, g3]; exact I3)
  refine wpAny_ite_split (fun _ => ?_) (fun _ => wpAny_pure ⟨plainId_quiet PySem.F.plain_extend_loop _, go s2 I2⟩)
  refine wpAny_bind (wpAny_rule ?_)
  refine wpAny_bind ?_
  show wpAny _ _ (updateSeq q (·.push .none) >>= fun _ => updateSeq q (·.pop)) _ _ _
  obtain ⟨z, its, k', r3, hl3, e3⟩ := I2.lstM eq
  cases r3
  refine wpAny_bind (wpAny_updateSeq e3 rfl ?_)
  have I4 := I2.lset (f := (·.push Value.none)) (its' := [Value.none]) (ys := [.non]) (t' := s2.toks) eq e3 (by simp) (.cons rfl .nil) (by rw [List.length_singleton, sizeLine_eq]; decide)
  obtain ⟨z4, its4, k4, r4, hl4, e4⟩ := I4.lstM upd_same
  obtain ⟨u4, rfl, ru4⟩ := r4.one
  refine wpAny_updateSeq e4 rfl ?_ (by show 1 ≤ sizeLine; rw [sizeLine_eq]; decide) (by show 0 ≤ sizeLine + 1; exact Nat.zero_le _)
  have I5 := I4.lset (f := (·.pop)) (its := [u4]) (its' := []) (ys := []) (t' := s2.toks) upd_same e4 (by rfl) .nil (Nat.zero_le _)
  rw [upd_upd] at I5
  have hH : upd H3 q (.lst []) = H3 := by
    funext b
    by_cases hb : b = q
    · rw [hb, upd_same, eq]
    · rw [upd_ne hb]
  rw [hH] at I5
  exact wpAny_pure ⟨plainId_quiet PySem.F.plain_extend_loop _, go _ I5⟩
/-- list(o) -/
def rOwnI (K : PySem.W.Frag) (C : Addr) (f : Str) (spl : Sp) : List V → Hp → VK → Prop := fun xs H Q => ∃ a dx fs l zs, xs = [.ref a] ∧ H a = some (.ins C dx fs) ∧ fs.lookup f = some (.ref l) ∧ SqL K H l zs ∧ zs.length ≤ 100000 ∧
  (∀ H1, Evl.Ex H H1 → spl [.ref a] H1 (fun v H' => ∃ n : Int, v = .int n ∧ 0 ≤ n ∧ n < 100000 ∧ Evl.Ex H1 H') E0) ∧ ∀ q H2, H q = Option.none → Evl.Ex H H2 → H2 q = Option.none → Q (.ref q) (upd H2 q (.lst zs))
theorem call_listOwnI (hc : X.calm = true) (hr : Room (k + 3) X.A) (F : FnOkS X.prog X.w X.K X.mg X.base k fi fd ps (spIter X.K C f)) (M : Meth X.K C "__iter__" fi) (hb : Binds X.K fd ps [])
    (Fl : FnOk X.prog X.w X.K X.mg X.base CX0 k fl fdl psl spl) (Ml : Meth X.K C "__len__" fl) (hbl : Binds X.K fdl psl []) : CallR X (.type "list") (rOwnI X.K C f spl) := by
  intro pins s σ H xs us Q I rv h
  obtain ⟨a, dx, fs, l, zs, rfl, ha, hf, hl, hz, hsp, hQ⟩ := h
  obtain ⟨u, rfl, ru⟩ := rv.one
  cases ru
  refine callType_codes (Q₁ := fun obj s₁ => obj = .ref s.heap.objs.size ∧ s₁ = { s with heap := s.heap.push { cls := .type "list", data := .seq #[] } }) PySem.F.called_list (PySem.F.typeCall_list_1 _) PySem.F.entry_list_init
    (code_list_new _ ⟨rfl, rfl⟩) fun obj s₁ h₁ => ?_
  obtain ⟨rfl, rfl⟩ := h₁
  have hS : (s.heap.push { cls := .type "list", data := .seq #[] }).get? s.heap.objs.size = some { cls := .type "list", data := .seq #[] } := Heap.get?_push_size _ rfl
  refine ⟨⟨_, hS, rfl⟩, PySem.F.args_list_init_2 _ _, ?_⟩
  have fr : H s.heap.objs.size = none := I.hok.fresh (Nat.le_refl _)
  have I1 : Inv X pins σ (upd H s.heap.objs.size (.lst [])) { s with heap := s.heap.push { cls := .type "list", data := .seq #[] } } := I.lnew (its := []) (t' := s.toks) .nil (Nat.zero_le _)
  show wpAny _ _ (do let old ← Builtin.List.listItems (.ref s.heap.objs.size); Builtin.List.listUpdate (.ref s.heap.objs.size) (fun _ => #[]); letGo old.toList.reverse; Builtin.List.listExtendWith (.ref s.heap.objs.size) (.ref a) .none) _ _ _
  refine wpAny_bind ?_
  unfold Builtin.List.listItems
  refine wpAny_bind (wpAny_seqItems hS rfl (wpAny_pure ?_))
  show wpAny _ _ (updateSeq s.heap.objs.size (fun _ => #[]) >>= fun _ => letGo (#[] : Array Value).toList.reverse >>= fun _ => Builtin.List.listExtendWith (.ref s.heap.objs.size) (.ref a) .none) _ _ _
  refine wpAny_bind (wpAny_updateSeq hS rfl ?_)
  have I2 := I1.lset (f := fun _ => #[]) (its := []) (its' := []) (ys := []) (t' := s.toks) upd_same hS rfl .nil (Nat.zero_le _)
  rw [upd_upd] at I2
  refine wpAny_bind (wpAny_letGo ?_)
  have hd := I.ok.hd hc
  refine wpAny_mono (own_extendI (A1 := X.A.in1.in1) (Rs := wants (fun r s₂ => r = .none ∧ EP X pins σ Q (.ref s.heap.objs.size) s₂) X.xe) hd hr.in1.in1 rfl F M hb Fl Ml hbl ha hf hl hz fr rfl hsp I2
    (fun H2 s' e2 n2 I' => ⟨rfl, .ref s.heap.objs.size, _, I', rfl, hQ _ H2 fr e2 n2⟩)) (fun fin s' hfin => ?_) fun e s' he => he
  cases fin with
  | done f => exact hfin
  | again c => exact ⟨hfin.1, hfin.2 _ hd⟩
/-- what collects the items of o -/
theorem collect_own {A : Around} {a l dx : Addr} {fs : List (Str × V)} {zs : List V} {Q : List Value → Shared → Prop} (hh : A.handled = none) (hr : Room (k + 3) A) (hfr : A.frames = X.A.frames)
    (F : FnOkS X.prog X.w X.K X.mg X.base k fi fd ps (spIter X.K C f)) (M : Meth X.K C "__iter__" fi) (hb : Binds X.K fd ps [])
    (Fl : FnOk X.prog X.w X.K X.mg X.base CX0 k fl fdl psl spl) (Ml : Meth X.K C "__len__" fl) (hbl : Binds X.K fdl psl [])
    (ha : H a = some (.ins C dx fs)) (hf : fs.lookup f = some (.ref l)) (hl : SqL X.K H l zs) (hz : zs.length ≤ 100000)
    (hsp : ∀ H1, Evl.Ex H H1 → spl [.ref a] H1 (fun v H' => ∃ n : Int, v = .int n ∧ 0 ≤ n ∧ n < 100000 ∧ Evl.Ex H1 H') E0)
    (I : Inv X pins σ H s) (h : ∀ its s' H', Evl.Ex H H' → Inv X pins σ H' s' → Vals zs its → Q its s') : wpAny (model X.prog X.w) A (collect (.ref a)) Q X.xe s := by
  unfold collect
  refine wpAny_bind (wpAny_runValue (codeAny_builtin PyProof.Rows.entry_proto_collect' ?_))
  show wpAny _ _ (do again (.builtin "list.__iadd__" ⟨[← newList [], .ref a], []⟩)) _ _ s
  have fr : H s.heap.objs.size = none := I.hok.fresh (Nat.le_refl _)
  refine wpAny_bind (wpAny_newList (wpAny_pure ⟨Code.quiet_builtin _ (by decide +kernel), codeAny_builtin PyProof.Rows.entry_list_iadd' ?_⟩))
  have I1 : Inv X pins σ (upd H s.heap.objs.size (.lst [])) { s with heap := s.heap.push { cls := .type "list", data := .seq #[] } } := I.lnew (its := []) (t' := s.toks) .nil (Nat.zero_le _)
  rw [Around.under_plainId PySem.F.plain_list_iadd _]
  show wpAny _ A.in1 (Builtin.List.listExtendWith (.ref s.heap.objs.size) (.ref a) (.ref s.heap.objs.size)) _ _ { s with heap := s.heap.push { cls := .type "list", data := .seq #[] } }
  refine wpAny_mono (own_extendI (A1 := A.in1) (Rs := fun r s' => match r with
    | .ok (.ret v) => wpAny (model X.prog X.w) A (match v with
      | .ref a => do
        let o ← load a
        match o.data with
        | .seq xs _ => pure xs.toList
        | _ => unsupported "internal:collect"
      | _ => unsupported "internal:collect") Q X.xe s'
    | .ok _ => False
    | .error e => X.xe e s') hh (hr.in1.mono (Nat.le_succ _)) hfr F M hb Fl Ml hbl ha hf hl hz fr rfl hsp I1
    (fun H2 s' e2 n2 I' => ?_)) (fun fin s' hfin => ?_) fun e s' he => he
  rotate_left
  · cases fin with
    | done f => cases f <;> exact hfin
    | again c => exact ⟨hfin.1, codeAny_mono (hfin.2 A hh) fun r s' q => by
        cases r with
        | error e => exact q
        | ok fl => cases fl <;> exact q⟩
  · obtain ⟨z, its, k2, r2, hl2, e2'⟩ := I'.lstM upd_same
    show wpAny (model X.prog X.w) A (do
        let o ← load s.heap.objs.size
        match o.data with
        | .seq xs _ => pure xs.toList
        | _ => unsupported "internal:collect") Q X.xe s'
    refine wpAny_bind (wpAny_load e2' ?_)
    show wpAny _ _ (pure its.toArray.toList) Q X.xe _
    rw [show its.toArray.toList = its by simp]
    exact wpAny_pure (h its s' _ (Evl.Ex.mut e2 fr) I' r2)
def rOwnSI (K : PySem.W.Frag) (C : Addr) (f : Str) (spl : Sp) : List V → Hp → VK → Prop := fun xs H Q => ∃ a dx fs l ns, xs = [.ref a] ∧ H a = some (.ins C dx fs) ∧ fs.lookup f = some (.ref l) ∧ SqL K H l (ns.map V.int) ∧ ns.length < 64 ∧
  (∀ H1, Evl.Ex H H1 → spl [.ref a] H1 (fun v H' => ∃ n : Int, v = .int n ∧ 0 ≤ n ∧ n < 100000 ∧ Evl.Ex H1 H') E0) ∧ ∀ (ns' : List Int) q H2, ns'.Perm ns → ns'.Pairwise (· ≤ ·) → Evl.Ex H H2 → H2 q = Option.none → Q (.ref q) (upd H2 q (.lst (ns'.map V.int)))
/-- sorted(o) -/
theorem call_sortedOwnI (hc : X.calm = true) (hr : Room (k + 4) X.A) (F : FnOkS X.prog X.w X.K X.mg X.base k fi fd ps (spIter X.K C f)) (M : Meth X.K C "__iter__" fi) (hb : Binds X.K fd ps [])
    (Fl : FnOk X.prog X.w X.K X.mg X.base CX0 k fl fdl psl spl) (Ml : Meth X.K C "__len__" fl) (hbl : Binds X.K fdl psl []) : CallR X (.builtin "sorted") (rOwnSI X.K C f spl) := by
  intro pins s σ H xs us Q I rv h
  obtain ⟨a, dx, fs, l, ns, rfl, ha, hf, hl, h64, hsp, hQ⟩ := h
  obtain ⟨u, rfl, ru⟩ := rv.one
  cases ru
  have hd := I.ok.hd hc
  refine Calls.call_function_entry PyProof.Rows.kind_sorted PyProof.Rows.plain_sorted PyProof.Rows.entry_sorted (PyProof.Rows.args_sorted1 _) ?_
  unfold Builtin.«sorted»
  refine wpAny_bind (m := checkCount "sorted" 1 1 _) (wpAny_pure ?_)
  refine wpAny_bind (collect_own (A := X.A.in1) hd hr.in1 rfl F M hb Fl Ml hbl ha hf hl (by rw [List.length_map]; omega) hsp I fun its s' H' e' I' rv' => ?_)
  have hlen0 := rv'.length
  rw [List.length_map] at hlen0
  refine wpAny_bind (wpAny_newList ?_ (by rw [← hlen0, sizeLine_eq]; omega))
  have I1 : Inv X pins σ (upd H' s'.heap.objs.size (.lst (ns.map V.int))) { s' with heap := s'.heap.push { cls := .type "list", data := .seq its.toArray } } := I'.lnew (its := its) (t' := s'.toks) rv' (by rw [List.length_map, sizeLine_eq]; omega)
  have hoL : (s'.heap.push { cls := .type "list", data := .seq its.toArray }).get? s'.heap.objs.size = some (PyProof.Rows.seqObj "list" its.toArray 0) := Heap.get?_push_size _ rfl
  have hi := rv'.ints
  refine wpAny_bind (wpAny_holding (wpAny_call_entry PyProof.Rows.slot_list_sort ⟨_, hoL, rfl⟩ PyProof.Rows.entry_list_sort (PyProof.Rows.list_sort_tree (s := { s' with heap := s'.heap.push { cls := .type "list", data := .seq its.toArray } }) hoL hi (by rw [hi.length]; exact h64) fun out ns' a1 a2 a3 => ⟨_, rfl, ?_⟩) (PyProof.Rows.args_list_sort _)))
  refine wpAny_pure ⟨_, rfl, ?_⟩
  obtain ⟨ep, he'⟩ := PyProof.Rows.sortedHeap_at (vs := its) (out := out) hoL
  have hlen : (ns'.map V.int).length ≤ sizeLine := by rw [List.length_map, a2.length_eq]; exact small64 h64
  have fr : H' s'.heap.objs.size = none := I'.hok.fresh (Nat.le_refl _)
  have I2 := I1.write (x := s'.heap.objs.size) (e := s'.heap.objs.size) (o := .lst (ns'.map V.int)) (h' := PyProof.Rows.sortedHeap (s'.heap.push { cls := .type "list", data := .seq its.toArray }) s'.heap.objs.size its out) (t' := s'.toks) (by rw [upd_same]; trivial) (.inl rfl) (fun b u hb hu => by
    rw [PyProof.Rows.sortedHeap_old hb (Heap.lt_size hu)]; exact hu) ⟨_, he'⟩ ⟨hlen, out.toList, ep, vals_of_ints a1, he'⟩
  rw [upd_upd] at I2
  exact ⟨.ref s'.heap.objs.size, _, I2, rfl, hQ ns' _ H' a2 a3 e' fr⟩
end
end L2

namespace Sim
open PySem L2 Evl
section
variable {K : PySem.W.Frag} {σ : L2.St} {G H W : Hp} {te : TE} {α β γ : Type} {R : Rep β} {C : Addr} {ns : List Str} {fl : α → List Pd}
/-- the items of an own iterable, its length asked first -/
def ownL (m : Option Int) (zs : List β) : Option (List β) := m >>= fun n => bif decide (0 ≤ n ∧ n < 100000 ∧ zs.length ≤ 100000) then some zs else none
theorem own_len {flen : α → Option Int} {o : α} {n : Int} {a dx : Addr} {fs : List (Str × V)} {H1 : Hp} (e1 : Ex H H1) (e : Ex G H) (h2 : G a = some (.ins C dx fs)) (h3 : Fl ns (fl o) G fs) (hn : flen o = some n) (h0 : 0 ≤ n) (h1 : n < 100000) :
    PF (aC (rObj C ns fl) aN) rI (fun i => flen i.1) [.ref a] H1 (fun v H' => ∃ n : Int, v = .int n ∧ 0 ≤ n ∧ n < 100000 ∧ Ex H1 H') E0 :=
  ⟨G, (o, ()), n, e.trans e1, ⟨_, _, rfl, ⟨a, dx, fs, rfl, h2, h3⟩, rfl⟩, hn, fun v H2 G2 u r => ⟨n, r, h0, h1, u.hh⟩⟩
theorem rc_ownL {f : Str} {flen : α → Option Int} (i : Nat) (g : α → List β) (hi : ns.findIdx? (fun x => x == f) = some i) (hp : ∀ x, (fl x)[i]? = some (pd (rL R) (g x))) :
    RCL (rOwnI K C f (PF (aC (rObj C ns fl) aN) rI fun i => flen i.1)) (aC (rObj C ns fl) aN) R (fun i => ownL (flen i.1) (g i.1)) := fun vs x z H G hv hz e Q q => by
  obtain ⟨n, hn, hz⟩ := bindS hz
  cases hb : decide (0 ≤ n ∧ n < 100000 ∧ (g x.1).length ≤ 100000) with
  | false => rw [hb] at hz; cases hz
  | true =>
    rw [hb] at hz
    cases hz
    obtain ⟨b1, b2, b3⟩ := of_decide_eq_true hb
    obtain ⟨v, ws, rfl, ⟨a, dx, fs, rfl, h2, h3⟩, rfl⟩ := hv
    obtain ⟨w, hw, l, us, rfl, k2, k3⟩ := pr_get h3.2 (hp x.1)
    refine ⟨a, dx, fs, l, us, rfl, e a _ h2, look_at h3.1 hi hw, Or.inl (Or.inl (e l _ k2)), by rw [k3.length]; exact b3, fun H1 e1 => own_len e1 e h2 h3 hn b1 b2, fun p H2 hp0 e2 hp => ?_⟩
    exact q p _ G hp0 (Up.same e (e2.trans (Ex.new hp))) (wd_new (e.trans e2) hp k3)
theorem rc_ownS {f : Str} {flen : α → Option Int} (i : Nat) (g : α → List Int) (hi : ns.findIdx? (fun x => x == f) = some i) (hp : ∀ x, (fl x)[i]? = some (pd (rL rI) (g x))) :
    RCL (rOwnSI K C f (PF (aC (rObj C ns fl) aN) rI fun i => flen i.1)) (aC (rObj C ns fl) aN) rI (fun i => ownL (flen i.1) (g i.1) >>= fun zs => if zs.length < 64 then some (srtI zs) else none) := fun vs x z H G hv hz e Q q => by
  obtain ⟨zs, hz0, hz⟩ := bindS hz
  obtain ⟨n, hn, hz0⟩ := bindS hz0
  cases hb : decide (0 ≤ n ∧ n < 100000 ∧ (g x.1).length ≤ 100000) with
  | false => rw [hb] at hz0; cases hz0
  | true =>
    rw [hb] at hz0
    cases hz0
    obtain ⟨b1, b2, b3⟩ := of_decide_eq_true hb
    split at hz
    · rename_i hl
      cases hz
      obtain ⟨v, ws, rfl, ⟨a, dx, fs, rfl, h2, h3⟩, rfl⟩ := hv
      obtain ⟨w, hw, l, us, rfl, k2, k3⟩ := pr_get h3.2 (hp x.1)
      have h3' := pr_ints k3
      subst h3'
      refine ⟨a, dx, fs, l, g x.1, rfl, e a _ h2, look_at h3.1 hi hw, Or.inl (Or.inl (e l _ k2)), hl, fun H1 e1 => own_len e1 e h2 h3 hn b1 b2, fun ns' p H2 hpm hs e2 hp => ?_⟩
      have : ns' = srtI (g x.1) := srt_uniq (hpm.trans (srtI_perm _).symm) hs (srtI_sorted _)
      subst this
      have hp0 : H p = none := by
        cases hq : H p with
        | none => rfl
        | some o => rw [e2 p o hq] at hp; cases hp
      exact q p _ G hp0 (Up.same e (e2.trans (Ex.new hp))) (wd_new (e.trans e2) hp (ints_pr _))
    · cases hz
theorem src_own {f : Str} {m : Option α} (i : Nat) (g : α → List β) (h : E te σ G W (rObj C ns fl) m) (hi : ns.findIdx? (fun x => x == f) = some i) (hp : ∀ x, (fl x)[i]? = some (pd (rL R) (g x))) : Src (iOwn K C f te) σ G W R (m >>= fun x => some (g x)) := fun xs hx H e e' k q => by
  obtain ⟨x, hx1, hx⟩ := bindS hx
  cases hx
  refine h x hx1 H e e' _ fun v H1 G1 u r => ?_
  obtain ⟨a, dx, fs, rfl, h2, h3⟩ := r
  obtain ⟨w, hw, l, us, rfl, k2, k3⟩ := pr_get h3.2 (hp x)
  refine ⟨a, dx, fs, l, us, rfl, u.gh a _ h2, look_at h3.1 hi hw, Or.inl (Or.inl (u.gh l _ k2)), q _ H1 G1 u fun i H' e1 => ⟨fun hi => ?_, fun x hx => ?_⟩⟩
  · subst hi; exact ⟨us, Or.inl (Or.inl (e1 l _ k2)), by rw [k3.length]; exact Nat.le_refl _⟩
  · obtain ⟨v, hv, r⟩ := pr_get k3 hx
    refine ⟨⟨us, v, Or.inl (Or.inl (e1 l _ k2)), hv⟩, fun w H2 y => ?_⟩
    obtain ⟨rfl, y⟩ := y
    have := y us (Or.inl (Or.inl (e1 l _ k2)))
    rw [hv] at this
    cases this
    exact ⟨rfl, r⟩
theorem x_forO {G0 H0 : Hp} {ls : List Addr} {cs : Cs} {tz : TS} {D : Ends} {g : TG} {tu : TS} {f : Str} {m : Option α} {o : α} (i : Nat) (gf : α → List β) (w : Wo G0 H0 ls G H cs) (h : E te σ G H (rObj C ns fl) m) (hm : m = some o) (hi : ns.findIdx? (fun x => x == f) = some i) (hp : ∀ x, (fl x)[i]? = some (pd (rL R) (gf x)))
    (P : Nat → Hp → Hp → L2.St → Prop) (hP : ∀ i G' H' σ', P i G' H' σ' → Ex G' H')
    (h0 : ∀ G' H', Wo G0 H0 ls G' H' cs → Ex G G' → P 0 G' H' σ)
    (hs : ∀ G1, Ex G G1 → ∀ i x v σ' G' H', (gf o)[i]? = some x → Ex G1 G' → P i G' H' σ' → R.r G' v x → g v σ' H' fun σ2 H2 => tu { D with nx := fun σ' H' => ∃ G', Ex G1 G' ∧ P (i + 1) G' H' σ', ct := fun σ' H' => ∃ G', Ex G1 G' ∧ P (i + 1) G' H' σ', bk := tz D } σ2 H2)
    (hd : ∀ σ' G' H', Ex G G' → P (gf o).length G' H' σ' → tz D σ' H') : tSeq (tFor (iOwn K C f te) g tu) tz D σ H :=
  h o hm H w.ex (Ex.refl _) _ fun v H1 G1 u r => by
    obtain ⟨a, dx, fs, rfl, k2, k3⟩ := r
    obtain ⟨w', hw, l, vs, rfl, h2, h3⟩ := pr_get k3.2 (hp o)
    refine ⟨a, dx, fs, l, vs, rfl, u.gh a _ k2, look_at k3.1 hi hw, Or.inl (Or.inl (u.gh l _ h2)), for_list (K := K) (a := l) (xs := vs) (fun i σ' H' => ∃ G', Ex G1 G' ∧ P i G' H' σ') ⟨G1, Ex.refl _, h0 G1 H1 (w.up u) u.gg⟩ ?_ ?_ ?_⟩
    · rintro i σ' H' _ ⟨G', e, p⟩
      exact Or.inl (Or.inl (hP _ _ _ _ p l _ (e l _ h2)))
    · rintro i y σ' H' hy ⟨G', e, p⟩
      obtain ⟨x, hx, r⟩ := pr_get' h3 hy
      exact hs G1 u.gg i x y σ' G' H' hx e p (R.mono e r)
    · rintro σ' H' ⟨G', e, p⟩
      rw [h3.length] at p
      exact hd σ' G' H' (u.gg.trans e) p
end
end Sim
namespace Sim
open PySem L2
/-- a method that may speak of how many objects there are -/
def FmS (P : Program) (w : World) (K : PySem.W.Frag) (mg : Str → Option Value) (base : Heap) (k : Nat) (c m : Str) (ps : List Str) (sp : Nat → Sp) : Prop :=
  ∃ fd, FnOkS P w K mg base k (He.ma K (He.ga K c) m) fd ps sp ∧ Binds K fd ps []
theorem fmS_mk {K : PySem.W.Frag} {mg : Str → Option Value} {P : Program} {w : World} {base : Heap} {k : Nat} {c m x qual : Str} {ps : List Str} {sp : Nat → Sp} {fd : FuncData} {params : Arguments} {body : List Stmt} {scope : Scope} (F : FunD K x qual params body scope [] [] (He.ma K (He.ga K c) m) fd)
    (hb : ∀ (kV doc pm : Value) (an : Option Addr) (cdv ct : Value) (us : List Value), us.length = ps.length → bindArgs (PySem.W.fnOf x qual params body scope .none kV doc pm an cdv ct) ⟨us, []⟩ = pure (ps.zip us))
    (h : FnOkS P w K mg base k (He.ma K (He.ga K c) m) fd ps sp) : FmS P w K mg base k c m ps sp := ⟨fd, h, F.bindsN hb⟩
end Sim

set_option maxHeartbeats 2000000
/-! a class with slots -/
namespace L2
open PySem PySem.Spec PyProof.Rows SlX
section
variable {X : Cx} {CX : CXT} {k : Nat} {f C : Addr} {fd : FuncData} {ps : List Str} {sp : Sp} {pins : List (Addr × Obj)} {σ : St} {H : Hp} {s : Shared} {ta tb : TE}
theorem fnR_of (F : FnOk X.prog X.w X.K X.mg X.base CX k f fd ps sp) (hb : Binds X.K fd ps []) : FnR X.prog X.w X.K X.mg X.base CX k f sp :=
  (F.raw hb .nil).imp fun vs H Q E h => by rw [List.append_nil]; exact h
/-- what stands right of an own comparison of a slotted instance -/
def NFsl (K : PySem.W.Frag) (C : Addr) (H : Hp) (y : V) : Prop := (∃ b dy ws, y = .ref b ∧ Slt H b C dy ws) ∨ ∃ t, TyX K H y t ∧ PySem.W.subIn K t (.ref C) = some false
theorem NFsl.looks {y : V} {u : Value} (h : NFsl X.K C H y) (I : Inv X pins σ H s) (ry : RelV y u) : ∃ tb, PySem.W.Looks (model X.prog X.w) s.heap (typeOf u) tb ∧ PySem.W.notFirst X.K C tb = true := by
  rcases h with ⟨b, dy, ws, rfl, hb⟩ | ⟨t, ty, hs⟩
  · cases ry
    obtain ⟨sl, od, r, J, _⟩ := slt_inst I hb
    exact ⟨.ref C, J.type, by simp [PySem.W.notFirst]⟩
  · obtain ⟨P, Z, hp, _⟩ := kit_of I ry ty
    exact ⟨t, Z.ty _ _ I.kIn hp, by simp [PySem.W.notFirst, hs]⟩
def rEqS (K : PySem.W.Frag) (C : Addr) (sp : Sp) : R2 := fun x y H Q => ∃ a dx vs, x = .ref a ∧ Slt H a C dx vs ∧ NFsl K C H y ∧ sp [.ref a, y] H Q E0
theorem op_eqS (F : FnOk X.prog X.w X.K X.mg X.base CX0 k f fd ps sp) (hr : Room k X.A) (M : Meth X.K C "__eq__" f) (hb : Binds X.K fd ps []) : OpR X (compareOp .Eq) (rEqS X.K C sp) := by
  intro pins s σ H x y v u Q I rx ry h
  obtain ⟨a, dx, vs, rfl, ha, hn, q⟩ := h
  cases rx
  obtain ⟨sl, od, r, J, _⟩ := slt_inst I ha
  obtain ⟨tb, lk, nf⟩ := hn.looks I ry
  obtain ⟨m, hF⟩ := I.fr
  show wpAny (model X.prog X.w) X.A (richCompare .Eq (.ref a) u) (EP X pins σ Q) X.xe s
  refine PySem.W.cmp_K (op := .Eq) (tb := tb) hr.units0 hF I.ok.mod.kin J lk nf M.at_ M.fn ?_
  refine wpAny_mono (run_sp (us := [.ref a, u]) (vs := [.ref a, y]) F hr rfl hb passAt0 I (.cons rfl (.cons ry .nil)) q) (fun v s' hv => ?_) fun _ _ z => z
  obtain ⟨z, H', I', rz, qz⟩ := hv
  exact back_ok (rel_ni rz) ⟨z, H', I', rz, qz⟩
end
end L2
namespace Sim
open PySem PySem.Spec PyProof.Rows L2 Evl SlX
abbrev Ps := List (Nat × Pd)
def PsAt (ps : Ps) (G : Hp) (vs : List (Option V)) : Prop := ∀ q ∈ ps, ∃ v, vs[q.1]? = some (some v) ∧ q.2.p G v
theorem PsAt.mono {ps : Ps} {G G' : Hp} {vs : List (Option V)} (e : Ex G G') (h : PsAt ps G vs) : PsAt ps G' vs := fun q hq => by
  obtain ⟨v, h1, h2⟩ := h q hq
  exact ⟨v, h1, q.2.mono e h2⟩
/-- an instance with slots, as data -/
def rSl {α : Type} (C : Addr) (fl : α → Ps) : Rep α := ⟨fun H v x => ∃ a dx vs, v = .ref a ∧ H a = some (SlO a C dx vs) ∧ H dx = some (.xd []) ∧ PsAt (fl x) H vs,
  fun e ⟨a, dx, vs, h1, h2, h3, h4⟩ => ⟨a, dx, vs, h1, e a _ h2, e dx _ h3, h4.mono e⟩⟩
def cN (C dx : Addr) : CP := ⟨fun _ o => o = .ins C dx [], fun _ h => h⟩
def cOw (x : Addr) : CP := ⟨fun _ o => o = .own x, fun _ h => h⟩
def cXd : CP := ⟨fun _ o => o = .xd [], fun _ h => h⟩
def cSl (x C dx : Addr) (ps : Ps) : CP := ⟨fun G o => ∃ vs, o = SlO x C dx vs ∧ PsAt ps G vs, fun e ⟨vs, h1, h2⟩ => ⟨vs, h1, h2.mono e⟩⟩
section
variable {K : PySem.W.Frag} {σ : L2.St} {G0 H0 G H G2 H2 W : Hp} {ls : List Addr} {cs : Cs} {l ld C : Addr} {ta : TA} {te to : TE} {α β γ ι : Type} {R : Rep α} {S : Rep β} {T : Rep γ} {A : AR ι} {D : Ends} {tz : TS} {fl : α → Ps}
theorem nnSl : (rSl C fl).NN := fun ⟨a, _, _, h, _⟩ => by rw [h]; simp
theorem PsAt.put {ps : Ps} {vs : List (Option V)} {n : Nat} {v : V} {q : Pd} (h : PsAt ps G vs) (hn : ∀ p ∈ ps, p.1 ≠ n) (r : q.p G v) : PsAt (ps ++ [(n, q)]) G (putS n v vs) := fun p hp => by
  rcases List.mem_append.mp hp with hp | hp
  · obtain ⟨w, h1, h2⟩ := h p hp
    exact ⟨w, (putS_ne (hn p hp)).mpr h1, h2⟩
  · rw [List.mem_singleton.mp hp]
    exact ⟨v, putS_get n v vs, r⟩
/-- self.f = e, the first slot -/
theorem x_sl1 {i j j2 n : Nat} {f : Str} {p : Addr} {m : Option β} {x : β} (w : Wo G0 H0 ls G H cs) (hc : cs[j]? = some (l, cN C ld)) (hd : cs[j2]? = some (ld, cOw l)) (hi : σ[i]? = some (some (.ref l))) (h : E te σ G H S m) (hm : m = some x) (hC : SCls K C) (hs : Slot1 K C f p n)
    (hj : j ≠ j2) (k : ∀ H2 G2, Wo G0 H0 ls G2 H2 ((cs.set j2 (ld, cXd)).set j (l, cSl l C ld [(n, pd S x)])) → Ex G G2 → tz D σ H2) : tSeq (sSl K (tVar i) te f) tz D σ H :=
  h x hm H w.ex (Ex.refl _) (fun y H1 => tVar i σ H1 fun x H2 => ∃ a C dx p vs i, x = .ref a ∧ Slt H2 a C dx vs ∧ SCls K C ∧ Slot1 K C f p i ∧ tz D σ (slH H2 a C dx (putS i y vs))) fun v H3 G3 u r => by
    have w3 := w.up u
    obtain ⟨_, o3, k2, k3⟩ := w3.w.getAt hc
    subst k3
    refine ⟨.ref l, hi, l, C, ld, p, [], n, rfl, .inl ⟨k2, rfl⟩, hC, hs, ?_⟩
    have w4 := w3.writeAt (cp' := cXd) (o := .xd []) hd rfl
    have hc' : (cs.set j2 (ld, cXd))[j]? = some (l, cN C ld) := by rw [List.getElem?_set_ne (Ne.symm hj)]; exact hc
    exact k _ _ (w4.writeAt (cp' := cSl l C ld [(n, pd S x)]) (o := SlO l C ld (putS n v [])) hc' ⟨_, rfl, fun q hq => by
      rw [List.mem_singleton.mp hq]
      exact ⟨v, putS_get n v [], r⟩⟩) u.gg
/-- self.f = e, a further slot -/
theorem x_slN {i j j2 n : Nat} {f : Str} {p : Addr} {m : Option β} {x : β} {ps : Ps} (w : Wo G0 H0 ls G H cs) (hc : cs[j]? = some (l, cSl l C ld ps)) (hd : cs[j2]? = some (ld, cXd)) (hi : σ[i]? = some (some (.ref l))) (h : E te σ G H S m) (hm : m = some x) (hC : SCls K C) (hs : Slot1 K C f p n)
    (hj : j ≠ j2) (hn : ∀ p ∈ ps, p.1 ≠ n) (k : ∀ H2 G2, Wo G0 H0 ls G2 H2 ((cs.set j2 (ld, cXd)).set j (l, cSl l C ld (ps ++ [(n, pd S x)]))) → Ex G G2 → tz D σ H2) : tSeq (sSl K (tVar i) te f) tz D σ H :=
  h x hm H w.ex (Ex.refl _) (fun y H1 => tVar i σ H1 fun x H2 => ∃ a C dx p vs i, x = .ref a ∧ Slt H2 a C dx vs ∧ SCls K C ∧ Slot1 K C f p i ∧ tz D σ (slH H2 a C dx (putS i y vs))) fun v H3 G3 u r => by
    have w3 := w.up u
    obtain ⟨_, o3, k2, vs, rfl, k3⟩ := w3.w.getAt hc
    obtain ⟨_, o4, d2, d3⟩ := w3.w.getAt hd
    subst d3
    refine ⟨.ref l, hi, l, C, ld, p, vs, n, rfl, .inr ⟨k2, d2⟩, hC, hs, ?_⟩
    have w4 := w3.writeAt (cp' := cXd) (o := .xd []) hd rfl
    have hc' : (cs.set j2 (ld, cXd))[j]? = some (l, cSl l C ld ps) := by rw [List.getElem?_set_ne (Ne.symm hj)]; exact hc
    exact k _ _ (w4.writeAt (cp' := cSl l C ld (ps ++ [(n, pd S x)])) (o := SlO l C ld (putS n v vs)) hc' ⟨_, rfl, k3.put hn r⟩) u.gg
/-- the promise of an __init__ that stores slots -/
def PIs (C : Addr) (A : AR ι) (fl : α → Ps) (f : ι → Option α) : Sp := fun vs H Q _ => ∃ G x dx ws i o, vs = .ref x :: ws ∧ Wd G H [(x, cN C dx), (dx, cOw x)] ∧ A.r G ws i ∧ f i = some o ∧
  ∀ H2 G2, Fr G H G2 H2 [x, dx] → Wd G2 H2 [(x, cSl x C dx (fl o)), (dx, cXd)] → Q .non H2
def PXIs (K : PySem.W.Frag) (C : Addr) (A : AR ι) (fl : α → Ps) (f : ι → Option (Xn ⊕ α)) : Sp := fun vs H Q E => ∃ G x dx ws i r, vs = .ref x :: ws ∧ Wd G H [(x, cN C dx), (dx, cOw x)] ∧ A.r G ws i ∧ f i = some r ∧
  (∀ e, r = .inl e → ∀ d H2 G2, Fr G H G2 H2 [x, dx] → Ex G2 H2 → Xat G2 e d → E (.ref (He.ga K e.cls)) (some d) H2) ∧
  (∀ o, r = .inr o → ∀ H2 G2, Fr G H G2 H2 [x, dx] → Wd G2 H2 [(x, cSl x C dx (fl o)), (dx, cXd)] → Q .non H2)
theorem new_slt {x dx : Addr} (e : Ex G H) (nx : H x = none) (ndx : H dx = none) (ne : dx ≠ x) : Wd G (upd (upd H dx (.own x)) x (.ins C dx [])) [(x, cN C dx), (dx, cOw x)] := by
  have nx' : (upd H dx (.own x)) x = none := by rw [upd_ne ne.symm]; exact nx
  have e1 : Ex G (upd H dx (.own x)) := e.trans (Ex.new ndx)
  exact ((Wd.nil e).new ndx rfl).new nx' rfl
theorem sl_freeze {x dx : Addr} {ps : Ps} (w : Wd G H [(x, cSl x C dx ps), (dx, cXd)]) : ∃ G2, Ex G G2 ∧ Ex G2 H ∧ (∀ a, a ≠ x → a ≠ dx → G a = none → G2 a = none) ∧ ∃ vs, G2 x = some (SlO x C dx vs) ∧ G2 dx = some (.xd []) ∧ PsAt ps G2 vs := by
  obtain ⟨h1, o, h2, vs, rfl, h3⟩ := w.head
  obtain ⟨d1, o2, d2, d3⟩ := w.tail.head
  subst d3
  have ne : dx ≠ x := fun z => by
    have := w.nd
    rw [z] at this
    simp at this
  have e2 : Ex G (upd (upd G dx (.xd [])) x (SlO x C dx vs)) := (Ex.new d1).trans (Ex.new (by rw [upd_ne ne.symm]; exact h1))
  refine ⟨_, e2, fun a u e => ?_, fun a n1 n2 h => by rw [upd_ne n1, upd_ne n2]; exact h, vs, upd_same, by rw [upd_ne ne]; exact upd_same, h3.mono e2⟩
  by_cases q : a = x
  · subst q; rw [upd_same] at e; cases e; exact h2
  · rw [upd_ne q] at e
    by_cases q2 : a = dx
    · subst q2; rw [upd_same] at e; cases e; exact d2
    · rw [upd_ne q2] at e; exact w.ex a u e
theorem e_makeS {f : ι → Option α} {mi : Option ι} {X : XK} (ha : EA ta σ G W A mi) : E (tMake C (PIs C A fl f) [] X ta) σ G W (rSl C fl) (mi >>= f) := fun z hz H e e' Q q => by
  obtain ⟨i, hi, hz⟩ := bindS hz
  refine ha i hi H e e' _ fun vs H1 G1 u1 r1 => ?_
  intro x dx nx ndx ne
  rw [List.append_nil]
  refine ⟨G1, x, dx, vs, i, z, rfl, new_slt u1.gh nx ndx ne, r1, hz, fun H2 G2 fr w2 => ⟨rfl, ?_⟩⟩
  obtain ⟨G3, k1, k2, k3, vs', k4, k5, k6⟩ := sl_freeze w2
  have hh : Ex H1 H2 := fun a o h => by
    have na : a ≠ x := ne_of_none h nx
    have nd : a ≠ dx := ne_of_none h ndx
    exact fr.fr a o (by rw [upd_ne na, upd_ne nd]; exact h) fun z => by simp [na, nd] at z
  have up : Up G1 H1 G3 H2 := ⟨fr.gg.trans k1, k2, hh, fun a h1 h2 => by
    have na : a ≠ x := fun z => by subst z; exact h1 nx
    have nd : a ≠ dx := fun z => by subst z; exact h1 ndx
    exact k3 a na nd (fr.nw a (by rw [upd_ne na, upd_ne nd]; exact h1) h2)⟩
  exact q _ H2 G3 (u1.trans up) ⟨x, dx, vs', rfl, k4, k5, k6⟩
theorem ex_makeS {f : ι → Option (Xn ⊕ α)} {mi : Option ι} {Wx : L2.St → XK} (ha : EA ta σ G W A mi) : EX K (tMakeT C (PXIs K C A fl f) Wx ta) σ G W (rSl C fl) (mi >>= f) (Wx σ) := fun z hz H e e' Q qx q => by
  obtain ⟨i, hi, hz⟩ := bindS hz
  refine ha i hi H e e' _ fun vs H1 G1 u1 r1 => ?_
  intro x dx nx ndx ne
  have hh : ∀ {G2 H2 : Hp}, Fr G1 (upd (upd H1 dx (.own x)) x (.ins C dx [])) G2 H2 [x, dx] → Ex H1 H2 := fun fr a o h => by
    have na : a ≠ x := ne_of_none h nx
    have nd : a ≠ dx := ne_of_none h ndx
    exact fr.fr a o (by rw [upd_ne na, upd_ne nd]; exact h) fun z => by simp [na, nd] at z
  have nn : ∀ {G2 H2 : Hp}, Fr G1 (upd (upd H1 dx (.own x)) x (.ins C dx [])) G2 H2 [x, dx] → ∀ a, H1 a ≠ none → G1 a = none → a ≠ x ∧ a ≠ dx ∧ G2 a = none := fun fr a h1 h2 => by
    have na : a ≠ x := fun z => by subst z; exact h1 nx
    have nd : a ≠ dx := fun z => by subst z; exact h1 ndx
    exact ⟨na, nd, fr.nw a (by rw [upd_ne na, upd_ne nd]; exact h1) h2⟩
  refine ⟨G1, x, dx, vs, i, z, rfl, new_slt u1.gh nx ndx ne, r1, hz, fun xn hx d H2 G2 fr ee xa => ?_, fun o ho H2 G2 fr w2 => ⟨rfl, ?_⟩⟩
  · exact qx xn hx d H2 G2 (u1.trans ⟨fr.gg, ee, hh fr, fun a h1 h2 => (nn fr a h1 h2).2.2⟩) xa
  · obtain ⟨G3, k1, k2, k3, vs', k4, k5, k6⟩ := sl_freeze w2
    exact q o ho _ H2 G3 (u1.trans ⟨fr.gg.trans k1, k2, hh fr, fun a h1 h2 => k3 a (nn fr a h1 h2).1 (nn fr a h1 h2).2.1 (nn fr a h1 h2).2.2⟩) ⟨x, dx, vs', rfl, k4, k5, k6⟩
/-- o.f -/
theorem e_sl {m : Option α} {f : Str} {p : Addr} {n : Nat} (g : α → β) (h : E to σ G W (rSl C fl) m) (hC : SCls K C) (hs : Slot1 K C f p n) (hp : ∀ x, (n, pd S (g x)) ∈ fl x) : E (tSl K to f) σ G W S (m >>= fun x => some (g x)) := fun z hz H e e' Q q => by
  obtain ⟨x, hx, hz⟩ := bindS hz
  cases hz
  refine h x hx H e e' _ fun v H1 G1 u r => ?_
  obtain ⟨a, dx, vs, rfl, h2, h3, h4⟩ := r
  obtain ⟨w, hw, r2⟩ := h4 _ (hp x)
  exact ⟨a, C, dx, p, vs, n, w, rfl, .inr ⟨u.gh a _ h2, u.gh dx _ h3⟩, hC, hs, hw, q w H1 G1 u r2⟩
/-- o.m(..) -/
theorem e_methS {m : Option α} {mi : Option ι} {f : α × ι → Option γ} {X : XK} (h : E to σ G W (rSl C fl) m) (ha : EA ta σ G W A mi) : E (tMethSl C (PF (aC (rSl C fl) A) T f) X to ta) σ G W T (m >>= fun o => mi >>= fun i => f (o, i)) := fun z hz H e e' Q q => by
  obtain ⟨x, hx, hz⟩ := bindS hz
  obtain ⟨y, hy, hz⟩ := bindS hz
  refine h x hx H e e' _ fun v H1 G1 u r => ?_
  obtain ⟨a, dx, us, rfl, h2, h3, h4⟩ := r
  refine ⟨a, dx, us, rfl, .inr ⟨u.gh a _ h2, u.gh dx _ h3⟩, ?_⟩
  refine (ha.mono u.gg (e'.trans u.hh)) y hy H1 u.gh (Ex.refl _) _ fun vs H3 G3 u3 r3 => ?_
  exact ⟨G3, (x, y), z, u3.gh, ⟨.ref a, vs, rfl, ⟨a, dx, us, rfl, u3.gg a _ h2, u3.gg dx _ h3, h4.mono u3.gg⟩, r3⟩, hz, fun v H4 G4 u4 r4 => q v H4 G4 ((u.trans u3).trans u4) r4⟩
theorem el_methS {m : Option α} {mi : Option ι} {f : α × ι → Option (List γ)} {X : XK} (h : E to σ G W (rSl C fl) m) (ha : EA ta σ G W A mi) : EL (tMethSl C (PL (aC (rSl C fl) A) T f) X to ta) σ G W T (m >>= fun o => mi >>= fun i => f (o, i)) := fun z hz H e e' Q q => by
  obtain ⟨x, hx, hz⟩ := bindS hz
  obtain ⟨y, hy, hz⟩ := bindS hz
  refine h x hx H e e' _ fun v H1 G1 u r => ?_
  obtain ⟨a, dx, us, rfl, h2, h3, h4⟩ := r
  refine ⟨a, dx, us, rfl, .inr ⟨u.gh a _ h2, u.gh dx _ h3⟩, ?_⟩
  refine (ha.mono u.gg (e'.trans u.hh)) y hy H1 u.gh (Ex.refl _) _ fun vs H3 G3 u3 r3 => ?_
  exact ⟨G3, (x, y), z, u3.gh, ⟨.ref a, vs, rfl, ⟨a, dx, us, rfl, u3.gg a _ h2, u3.gg dx _ h3, h4.mono u3.gg⟩, r3⟩, hz, fun p H4 G4 hp u4 r4 => q p H4 G4 (fresh_back (u.hh.trans u3.hh) hp) ((u.trans u3).trans u4) r4⟩
/-! own == -/
def Rep.NSl (S : Rep β) (K : PySem.W.Frag) (C : Addr) : Prop := ∀ {H : Hp} {v : V} {y : β}, S.r H v y → NFsl K C H v
theorem nslObj : (rSl C fl).NSl K C := fun ⟨a, dx, vs, h, h2, h3, _⟩ => .inl ⟨a, dx, vs, h, .inr ⟨h2, h3⟩⟩
theorem nslTy {n : String} (k : KTy S n) (h : PySem.W.subIn K (.type n) (.ref C) = some false) : S.NSl K C := fun r => .inr ⟨_, k r, h⟩
theorem rr_eqSl {f : α → β → Option Bool} (hS : S.NSl K C) : RR (rEqS K C (PF (aC (rSl C fl) (aC S aN)) rB fun i => f i.1 i.2.1)) (rSl C fl) S rB f := fun v w x y z H G hv hw hz e Q q => by
  obtain ⟨a, dx, vs, rfl, h2, h3, h4⟩ := hv
  exact ⟨a, dx, vs, rfl, .inr ⟨e a _ h2, e dx _ h3⟩, hS (S.mono e hw), G, (x, y, ()), z, e, ⟨_, _, rfl, ⟨a, dx, vs, rfl, h2, h3, h4⟩, _, _, rfl, hw, rfl⟩, hz, fun u H2 G2 up r => q u H2 G2 up r⟩
/-- isinstance -/
theorem e_isiS {D : Addr} {m : Option α} {b : Bool} (h : E te σ G W (rSl C fl) m) (hC : SCls K C) (hI : SIsi K C) (hk : PySem.W.kitOne K (.ref C) (.ref D) = some b) :
    E (tCB (rIsiSl K (.ref D)) (tCons te (tCons (tC (.ref D)) tNil))) σ G W rB (m >>= fun _ => some b) := fun z hz H e e' Q q => by
  obtain ⟨x, hx, hz⟩ := bindS hz
  cases hz
  refine h x hx H e e' _ fun v H1 G1 u r => ?_
  obtain ⟨a, dx, vs, rfl, h2, h3, _⟩ := r
  exact ⟨a, C, dx, vs, .ref D, _, rfl, rfl, fun w hw => hw, .inr ⟨u.gh a _ h2, u.gh dx _ h3⟩, hC, hI, hk, q _ H1 G1 u rfl⟩
end
/-! facts of the text -/
def sclB (C : Str) (K : PySem.W.Frag) : Bool := PySem.W.plainGet K (He.ga K C) Str.empty && (PySem.W.isClsIn K (He.ga K C) && (PySem.W.plainOver K (He.ga K C) && decide (PySem.W.findIn K (.ref (He.ga K C)) "__setattr__" = some (some (.builtin "object.__setattr__")))))
theorem scl_ok {C : Str} {K : PySem.W.Frag} (h : sclB C K = true) : SCls K (He.ga K C) := by
  obtain ⟨h1, h⟩ := He.ba h
  obtain ⟨h2, h⟩ := He.ba h
  obtain ⟨h3, h4⟩ := He.ba h
  exact ⟨h1, h2, h3, of_decide_eq_true h4⟩
def slotB (C f : Str) (i : Nat) (K : PySem.W.Frag) : Bool := decide (PySem.W.findIn K (.ref (He.ga K C)) f = some (some (.ref (He.ma K (He.ga K C) f)))) && (decide (PySem.W.specialIn K (.ref (He.ma K (He.ga K C) f)) "__get__" = some (some (.builtin "member_descriptor.__get__"))) &&
  (decide (PySem.W.takesIn K (.ref (He.ma K (He.ga K C) f)) = some true) && (decide (PySem.W.typeIn K (.ref (He.ma K (He.ga K C) f)) = some (.type "member_descriptor")) && (decide (PySem.W.slotIn K (He.ma K (He.ga K C) f) (He.ga K C) = some i) && decide (i < 1000)))))
theorem slot_ok {C f : Str} {i : Nat} {K : PySem.W.Frag} (h : slotB C f i K = true) : Slot1 K (He.ga K C) f (He.ma K (He.ga K C) f) i := by
  obtain ⟨h1, h⟩ := He.ba h
  obtain ⟨h2, h⟩ := He.ba h
  obtain ⟨h3, h⟩ := He.ba h
  obtain ⟨h4, h⟩ := He.ba h
  obtain ⟨h5, h6⟩ := He.ba h
  exact ⟨of_decide_eq_true h1, of_decide_eq_true h2, of_decide_eq_true h3, of_decide_eq_true h4, of_decide_eq_true h5, of_decide_eq_true h6⟩
def sisiB (C : Str) (K : PySem.W.Frag) : Bool := decide (PySem.W.findIn K (.ref (He.ga K C)) "__class__" = some (some (.builtin "object.__class__"))) && (decide (PySem.W.specialIn K (.builtin "object.__class__") "__get__" = some (some (.builtin "getset_descriptor.__get__"))) &&
  (decide (PySem.W.takesIn K (.builtin "object.__class__") = some true) && decide (PySem.W.mroIn K (He.ga K C) (.type "object") = some true)))
theorem sisi_ok {C : Str} {K : PySem.W.Frag} (h : sisiB C K = true) : SIsi K (He.ga K C) := by
  obtain ⟨h1, h⟩ := He.ba h
  obtain ⟨h2, h⟩ := He.ba h
  obtain ⟨h3, h4⟩ := He.ba h
  exact ⟨of_decide_eq_true h1, of_decide_eq_true h2, of_decide_eq_true h3, of_decide_eq_true h4⟩
end Sim

/-! cells of any kind; dicts; texts -/
namespace L2
open PySem PySem.Spec PyProof.Rows
section
variable {X : Cx}
def rMulS : R2 := fun x y H Q => ∃ z n, x = .str z ∧ y = .int n ∧ MulOk z n ∧ Q (.str (Txt.mul z n)) H
theorem op_mulS : OpR X (binaryOp .Mult) rMulS := by
  intro pins s σ H x y v u Q I rx ry h
  obtain ⟨z, n, rfl, rfl, hok, q⟩ := h
  obtain ⟨t, rfl⟩ := rx
  obtain ⟨t', rfl⟩ := ry
  exact SB.mul hok fun t2 k => ⟨.str _, H, I.tok _, ⟨_, rfl⟩, q⟩
abbrev rAddS : R2 := fun x y H Q => ∃ i j, x = .str i ∧ y = .str j ∧ i.length + j.length ≤ sizeLine ∧ Q (.str (i ++ j)) H
abbrev rStrI : List V → Hp → VK → Prop := fun xs H Q => ∃ i, xs = [.int i] ∧ i.natAbs.log2 < 1920 ∧ Q (.str (toString i)) H
abbrev rLsD : List V → Hp → VK → Prop := fun xs H Q => ∃ (a : Addr) (kvs : List (Key × V)), xs = [.ref a] ∧ Rd H a (.dK kvs) ∧ ∀ p, H p = none → Q (.ref p) (upd H p (.lst (kvs.map fun kv => kV kv.1)))
end
end L2
namespace Sim
open PySem L2 Evl
/-! ### texts -/
def addS (x y : Str) : Option Str := bif decide (x.length + y.length < 100000) then some (x ++ y) else none
def mulS (z : Str) (n : Int) : Option Str := bif decide (n < 100 ∧ -100 < n ∧ z.length < 1000) then some (Txt.mul z n) else none
def ixS (z : Str) (i : Int) : Option Str := bif decide (z.length < 100000) then (atI z.cps.toList i >>= fun c => some ⟨#[c]⟩) else none
def strI (i : Int) : Option Str := bif decide (i.natAbs < 2 ^ 64) then some (toString i : String) else none
theorem bifO1 {α : Type} {c : Prop} [Decidable c] {m : Option α} {z : α} (h : (bif decide c then m else none) = some z) : c ∧ m = some z := by
  cases hc : decide c with
  | false => rw [hc] at h; cases h
  | true => rw [hc] at h; exact ⟨of_decide_eq_true hc, h⟩
section
variable {K : PySem.W.Frag} {σ : L2.St} {G0 H0 G H G2 H2 W : Hp} {ls : List Addr} {cs : Cs} {l : Addr} {cp' : CP} {ta : TA} {te td ti tx : TE} {α β γ ι κ : Type} {R : Rep α} {S : Rep β} {T : Rep γ} {A : AR ι} {D : Ends} {tz : TS}
theorem rr_addS : RR rAddS rS rS rS (fun x y => addS x y) := fun v w x y z H G hv hw hz e Q q => by
  cases hv; cases hw
  obtain ⟨h, hz⟩ := bifO1 hz
  cases hz
  exact ⟨x, y, rfl, rfl, by rw [sizeLine_eq]; omega, q _ H G (Up.refl e) rfl⟩
theorem rr_mulS : RR rMulS rS rI rS (fun x y => mulS x y) := fun v w x y z H G hv hw hz e Q q => by
  cases hv; cases hw
  obtain ⟨⟨h1, h2, h3⟩, hz⟩ := bifO1 hz
  cases hz
  refine ⟨x, y, rfl, rfl, ⟨?_, fun h4 _ h5 => ?_, fun h4 _ => ?_⟩, q _ H G (Up.refl e) rfl⟩
  · rw [Bool.or_eq_false_iff]; exact ⟨decide_eq_false (by omega), decide_eq_false (by omega)⟩
  · have : (2 ^ 63 - 1 : Int) / y ≥ 1000 := by
      apply (Int.le_ediv_iff_mul_le (by omega)).mpr
      omega
    omega
  · have h6 : x.length * y.toNat ≤ 1000 * 100 := Nat.mul_le_mul (by omega) (by omega)
    exact decide_eq_false (by rw [sizeLine_eq]; omega)
theorem rr_ixS : RR rIxS rS rI rS (fun x y => ixS x y) := fun v w x y z H G hv hw hz e Q q => by
  cases hv; cases hw
  obtain ⟨h, hz⟩ := bifO1 hz
  obtain ⟨c, hc, hz⟩ := bindS hz
  cases hz
  exact ⟨x, y, c, rfl, rfl, by rw [sizeLine_eq]; omega, hc, q _ H G (Up.refl e) rfl⟩
theorem rc_strI : RC rStrI (aC rI aN) rS (fun i => strI i.1) := fun vs i z H G hv hz e Q q => by
  obtain ⟨v, ws, rfl, h1, rfl⟩ := hv
  cases h1
  obtain ⟨h, hz⟩ := bifO1 hz
  cases hz
  refine ⟨i.1, rfl, ?_, q _ H G (Up.refl e) rfl⟩
  by_cases h0 : i.1.natAbs = 0
  · rw [h0]; decide
  · have : i.1.natAbs.log2 < 64 := (Nat.log2_lt h0).mpr h
    omega
/-! ### cells of any kind -/
/-- what stands in such a cell is data once nobody changes it -/
def Fz (cp : β → CP) (S : Rep β) : Prop := ∀ {G G' : Hp} {l : Addr} {o : HO} {x : β}, (cp x).p G o → Ex G G' → G' l = some o → S.r G' (.ref l) x
def EC (te : TE) (σ : L2.St) (G W : Hp) (cp : β → CP) (m : Option β) : Prop :=
  ∀ x, m = some x → ∀ H, Ex G H → Ex W H → ∀ Q : VK, (∀ p H2 G2, H p = none → Up G H G2 H2 → Wd G2 H2 [(p, cp x)] → Q (.ref p) H2) → te σ H Q
variable {cp : β → CP}
theorem frzC {G H G1 H1 : Hp} {p : Addr} {x : β} (F : Fz cp S) (hp : H p = none) (u : Up G H G1 H1) (w : Wd G1 H1 [(p, cp x)]) : ∃ G2, Up G H G2 H1 ∧ S.r G2 (.ref p) x := by
  obtain ⟨h1, o, h2, h3⟩ := w.head
  refine ⟨upd G1 p o, u.frz hp (Ex.new h1) (fun a u' e => ?_) (fun a ne h => by rw [upd_ne ne]; exact h), F h3 (Ex.new h1) upd_same⟩
  by_cases q : a = p
  · subst q; rw [upd_same] at e; cases e; exact h2
  · rw [upd_ne q] at e; exact w.ex a u' e
theorem EC.e {m : Option β} (F : Fz cp S) (h : EC te σ G W cp m) : E te σ G W S m := fun x hx H e e' Q q => h x hx H e e' Q fun p H2 G2 hp u w => by
  obtain ⟨G3, u3, r3⟩ := frzC F hp u w
  exact q _ H2 G3 u3 r3
theorem Wo.newC {p : Addr} {c : CP} (w : Wo G0 H0 ls G H cs) (n : H p = none) (u : Up G H G2 H2) (w2 : Wd G2 H2 [(p, c)]) : Wo G0 H0 ls G2 H2 ((p, c) :: cs) := by
  have n0 : H0 p = none := by
    cases q : H0 p with
    | none => rfl
    | some o => exact absurd n (w.f.st p (by rw [q]; simp))
  have w3 := w.up u
  refine ⟨⟨w3.ex, fun c hc => ?_, ?_⟩, w3.f, fun c hc => ?_⟩
  · rcases List.mem_cons.mp hc with hc | hc
    · subst hc; exact w2.head
    · exact w3.w.at_ c hc
  · refine List.nodup_cons.mpr ⟨fun hm => ?_, w.w.nd⟩
    obtain ⟨c, hc, e⟩ := List.mem_map.mp hm
    obtain ⟨_, o', h2, _⟩ := w.w.at_ c hc
    exact ne_of_none h2 n e
  · rcases List.mem_cons.mp hc with hc | hc
    · subst hc; exact .inr n0
    · exact w.lo c hc
theorem c_c {m : Option β} {x : β} {Q : VK} (w : Wo G0 H0 ls G H cs) (h : EC te σ G H cp m) (hm : m = some x) (k : ∀ p H2 G2, H0 p = none → Wo G0 H0 ls G2 H2 ((p, cp x) :: cs) → Ex G G2 → Q (.ref p) H2) : te σ H Q :=
  h x hm H w.ex (Ex.refl _) Q fun p H2 G2 hp u w2 => k p H2 G2 (by
    cases q : H0 p with
    | none => rfl
    | some o => exact absurd hp (w.f.st p (by rw [q]; simp))) (w.newC hp u w2) u.gg
theorem x_setC {i : Nat} {m : Option β} {x : β} (w : Wo G0 H0 ls G H cs) (h : EC te σ G H cp m) (hm : m = some x) (k : ∀ p H2 G2, H0 p = none → Wo G0 H0 ls G2 H2 ((p, cp x) :: cs) → Ex G G2 → tz D (σ.set i (some (.ref p))) H2) : tSeq (tAsg te (gName i)) tz D σ H :=
  c_c (Q := fun x H1 => gName i x σ H1 (tz D)) w h hm k
theorem x_retC {m : Option β} {x : β} (w : Wo G0 H0 ls G H cs) (h : EC te σ G H cp m) (hm : m = some x) (k : ∀ p H2 G2, H0 p = none → Wo G0 H0 ls G2 H2 ((p, cp x) :: cs) → Ex G G2 → D.rt (.ref p) H2) : tSeq (tRet te) tz D σ H := c_c (Q := D.rt) w h hm k
theorem Wo.rCAt {i : Nat} {x : β} (F : Fz cp S) (w : Wo G0 H0 ls G H cs) (h : cs[i]? = some (l, cp x)) : S.r H (.ref l) x := by
  obtain ⟨h1, o, h2, h3⟩ := w.w.getAt h
  exact F h3 w.ex h2
theorem Wo.freezeC {i : Nat} {x : β} (F : Fz cp S) (w : Wo G0 H0 ls G H cs) (h : cs[i]? = some (l, cp x)) (hl : H0 l = none) : ∃ G2, Wo G0 H0 ls G2 H (cs.eraseIdx i) ∧ Ex G G2 ∧ S.r G2 (.ref l) x := by
  obtain ⟨h1, o, h2, h3⟩ := w.w.getAt h
  refine ⟨upd G l o, ⟨⟨fun a u e => ?_, fun c hc => ?_, ?_⟩, ⟨w.f.gg.trans (Ex.new h1), w.f.fr, fun a k1 k2 => ?_, w.f.st⟩, fun c hc => w.lo c (List.mem_of_mem_eraseIdx hc)⟩, Ex.new h1, F h3 (Ex.new h1) upd_same⟩
  · by_cases q : a = l
    · subst q; rw [upd_same] at e; cases e; exact h2
    · rw [upd_ne q] at e; exact w.ex a u e
  · obtain ⟨k1, o', k2, k3⟩ := w.w.at_ c (List.mem_of_mem_eraseIdx hc)
    have ne : c.1 ≠ l := fun z => by
      have hi : (cs.map (·.1))[i]? = some l := by rw [List.getElem?_map, h]; rfl
      obtain ⟨j, hj, e⟩ := List.mem_iff_getElem.mp hc
      have e : (cs.eraseIdx i)[j]? = some c := by rw [List.getElem?_eq_getElem hj, e]
      rw [List.getElem?_eraseIdx] at e
      split at e
      · rename_i hlt
        have : (cs.map (·.1))[j]? = some l := by rw [List.getElem?_map, e]; exact congrArg some z
        have := nodup_ix w.w.nd hi this
        omega
      · rename_i hlt
        have : (cs.map (·.1))[j + 1]? = some l := by rw [List.getElem?_map, e]; exact congrArg some z
        have := nodup_ix w.w.nd hi this
        omega
    exact ⟨by rw [upd_ne ne]; exact k1, o', k2, c.2.mono (Ex.new h1) k3⟩
  · exact List.Pairwise.sublist ((List.eraseIdx_sublist cs i).map (·.1)) w.w.nd
  · by_cases q : a = l
    · subst q; exact absurd hl k1
    · rw [upd_ne q]; exact w.f.nw a k1 k2
/-- a new cell is handed back -/
def PC {ι β : Type} (A : AR ι) (cp : β → CP) (f : ι → Option β) : Sp := fun vs H Q _ => ∃ G i x, Ex G H ∧ A.r G vs i ∧ f i = some x ∧ ∀ p H2 G2, H p = none → Up G H G2 H2 → Wd G2 H2 [(p, cp x)] → Q (.ref p) H2
def PMC {ι κ β : Type} (A : AR ι) (ci : ι → κ → Cs) (cp : β → CP) (f : ι → κ → Option (β × κ)) : Sp := fun vs H Q _ => ∃ G i k x k', A.r G vs i ∧ Wd G H (ci i k) ∧ f i k = some (x, k') ∧
  ∀ p H2 G2, H p = none → Fr G H G2 H2 ((ci i k).map (·.1)) → Wd G2 H2 ((p, cp x) :: ci i k') → Q (.ref p) H2
abbrev P1C {κ β ι : Type} (A : AR ι) (C : Rep κ) (cp : β → CP) (f : List κ → ι → Option (β × List κ)) : Sp := PMC (aC rA A) (fun i k => [(i.1, cL C k)]) cp (fun i k => f k i.2)
theorem c_p1c {C : Rep κ} {f : List κ → ι → Option (β × List κ)} {vs : List V} {i : Nat} {j : ι} {ys ys' : List κ} {x : β} {Q : VK} {X : XK} (w : Wo G0 H0 ls G H cs) (hc : cs[i]? = some (l, cL C ys)) (hv : A.r G vs j) (hz : f ys j = some (x, ys'))
    (k : ∀ p H2 G2, H0 p = none → Wo G0 H0 ls G2 H2 ((p, cp x) :: cs.set i (l, cL C ys')) → Ex G G2 → Q (.ref p) H2) : P1C A C cp f (.ref l :: vs) H Q X :=
  ⟨G, (l, j), ys, x, ys', ⟨.ref l, vs, rfl, rfl, hv⟩, w.sub1 hc, hz, fun p H2 G2 hp fr w2 => k p H2 G2 (by
    cases q : H0 p with
    | none => rfl
    | some o => exact absurd hp (w.f.st p (by rw [q]; simp))) (w.call1L hc hp fr w2) fr.gg⟩
theorem ec_call {f : ι → Option β} {m : Option ι} {X : XK} (ha : EA ta σ G W A m) : EC (tCall (PC A cp f) [] X ta) σ G W cp (m >>= f) := fun z hz H e e' Q q => by
  obtain ⟨i, hi, hz⟩ := bindS hz
  refine ha i hi H e e' _ fun vs H1 G1 u1 r1 => ?_
  rw [List.append_nil]
  exact ⟨G1, i, z, u1.gh, r1, hz, fun p H2 G2 hp u2 w => q p H2 G2 (fresh_back u1.hh hp) (u1.trans u2) w⟩
/-! ### dicts -/
variable {κ : Type} [DecidableEq κ] {kf : κ → Key}
def Pm (kf : κ → Key) (R : Rep α) (G : Hp) : List (Key × V) → List (κ × α) → Prop := Paired (fun (p : Key × V) (q : κ × α) => p.1 = kf q.1 ∧ R.r G p.2 q.2)
def cM (kf : κ → Key) (R : Rep α) (kvs : List (κ × α)) : CP := ⟨fun G o => ∃ ws, o = .dK ws ∧ Pm kf R G ws kvs, fun e ⟨ws, h1, h2⟩ => ⟨ws, h1, Paired.mapP h2 fun _ _ h => ⟨h.1, R.mono e h.2⟩⟩⟩
theorem fzM : Fz (cM kf R) (rM kf R) := fun ⟨ws, h1, h2⟩ e h => ⟨_, ws, rfl, by rw [h, h1], Paired.mapP h2 fun _ _ h => ⟨h.1, R.mono e h.2⟩⟩
theorem fzL : Fz (cL R) (rL R) := fun ⟨vs, h1, h2⟩ e h => ⟨_, vs, rfl, by rw [h, h1], Paired.mapP h2 fun _ _ h => R.mono e h⟩
theorem ec_dnew : EC tDNewK σ G W (cM kf R) (some []) := fun z hz H e e' Q q => by
  cases hz
  intro p hp
  exact q p (upd H p (.dK [])) G hp (up_new e hp) ((Wd.nil e).new hp ⟨[], rfl, .nil⟩)
def lookM (kvs : List (κ × α)) (k : κ) : Option α := (kvs.find? fun q => decide (q.1 = k)).map (·.2)
def putM (kvs : List (κ × α)) (k : κ) (x : α) : List (κ × α) := if (kvs.any fun q => decide (q.1 = k)) = true then kvs.map (fun q => if q.1 = k then (q.1, x) else q) else kvs ++ [(k, x)]
def putMM (kvs : List (κ × α)) (k : κ) (x : α) : Option (List (κ × α)) := bif decide (kvs.length < 100000) then some (putM kvs k x) else none
abbrev Inj (kf : κ → Key) : Prop := ∀ a b, kf a = kf b → a = b
theorem injS : Inj (Sum.inr : Str → Key) := fun _ _ h => Sum.inr.inj h
theorem injI : Inj (Sum.inl : Int → Key) := fun _ _ h => Sum.inl.inj h
theorem pm_look (hj : Inj kf) (k : κ) : ∀ {ws : List (Key × V)} {kvs : List (κ × α)}, Pm kf R G ws kvs → (lookM kvs k = none ∧ valV ws (kf k) = none) ∨ ∃ v x, lookM kvs k = some x ∧ valV ws (kf k) = some v ∧ R.r G v x
  | _, _, .nil => .inl ⟨rfl, rfl⟩
  | _, _, .cons (a := p) (b := q) h t => by
    by_cases e : q.1 = k
    · exact .inr ⟨p.2, q.2, by simp [lookM, List.find?_cons, e], by rw [valV_pos (by rw [h.1, e])], h.2⟩
    · have e' : ¬ p.1 = kf k := fun z => e (hj _ _ (h.1.symm.trans z))
      have e1 : ∀ kvs : List (κ × α), lookM (q :: kvs) k = lookM kvs k := fun kvs => by unfold lookM; rw [List.find?_cons, decide_eq_false e]
      rw [e1, valV_neg e']
      exact pm_look hj k t
theorem pm_any (hj : Inj kf) (k : κ) : ∀ {ws : List (Key × V)} {kvs : List (κ × α)}, Pm kf R G ws kvs → (ws.any fun q => decide (q.1 = kf k)) = kvs.any fun q => decide (q.1 = k)
  | _, _, .nil => rfl
  | _, _, .cons (a := p) (b := q) h t => by
    rw [List.any_cons, List.any_cons, pm_any hj k t, h.1]
    congr 1
    by_cases e : q.1 = k
    · rw [decide_eq_true e, decide_eq_true (by rw [e])]
    · rw [decide_eq_false e, decide_eq_false fun z => e (hj _ _ z)]
theorem pm_map (hj : Inj kf) (k : κ) {v : V} {x : α} (r : R.r G v x) : ∀ {ws : List (Key × V)} {kvs : List (κ × α)}, Pm kf R G ws kvs → Pm kf R G (ws.map fun q => if q.1 = kf k then (q.1, v) else q) (kvs.map fun q => if q.1 = k then (q.1, x) else q)
  | _, _, .nil => .nil
  | _, _, .cons (a := p) (b := q) h t => by
    refine .cons ?_ (pm_map hj k r t)
    show (if p.1 = kf k then (p.1, v) else p).1 = kf (if q.1 = k then (q.1, x) else q).1 ∧ R.r G (if p.1 = kf k then (p.1, v) else p).2 (if q.1 = k then (q.1, x) else q).2
    by_cases e : q.1 = k
    · rw [if_pos (by rw [h.1, e]), if_pos e]; exact ⟨h.1, r⟩
    · rw [if_neg fun z => e (hj _ _ (h.1.symm.trans z)), if_neg e]; exact h
theorem pm_app : ∀ {ws : List (Key × V)} {kvs : List (κ × α)} {ws' : List (Key × V)} {kvs' : List (κ × α)}, Pm kf R G ws kvs → Pm kf R G ws' kvs' → Pm kf R G (ws ++ ws') (kvs ++ kvs')
  | _, _, _, _, .nil, h => h
  | _, _, _, _, .cons r t, h => .cons r (pm_app t h)
theorem pm_put (hj : Inj kf) {k : κ} {v : V} {x : α} (r : R.r G v x) {ws : List (Key × V)} {kvs : List (κ × α)} (h : Pm kf R G ws kvs) : Pm kf R G (putK ws (kf k) v) (putM kvs k x) := by
  unfold putK putM
  rw [pm_any hj k h]
  split
  · exact pm_map hj k r h
  · exact pm_app h (.cons ⟨rfl, r⟩ .nil)
theorem pm_at {ws : List (Key × V)} {kvs : List (κ × α)} (e : Ex G H) (h : Pm kf R G ws kvs) : Pm kf R H ws kvs := Paired.mapP h fun _ _ h => ⟨h.1, R.mono e h.2⟩
/-- how a key stands -/
structure KyR (kf : κ → Key) (S : Rep κ) : Prop where
  v : ∀ {H : Hp} {v : V} {k : κ}, S.r H v k → v = kV (kf k)
theorem kyS : KyR Sum.inr rS := ⟨fun h => h⟩
theorem kyI : KyR Sum.inl rI := ⟨fun h => h⟩
/-- d[k] = e, d a cell -/
theorem x_putM {a j : Nat} {Sk : Rep κ} {m : Option α} {mk : Option κ} {x : α} {k : κ} {kvs kvs' : List (κ × α)} (ky : KyR kf Sk) (hj : Inj kf) (w : Wo G0 H0 ls G H cs) (hc : cs[j]? = some (l, cM kf R kvs)) (hi : σ[a]? = some (some (.ref l))) (h : E te σ G H R m) (hm : m = some x)
    (h' : E ti σ G H Sk mk) (hm' : mk = some k) (hy : putMM kvs k x = some kvs') (kk : ∀ H2 G2, Wo G0 H0 ls G2 H2 (cs.set j (l, cM kf R kvs')) → Ex G G2 → tz D σ H2) : tSeq (sDPut (tVar a) ti te) tz D σ H :=
  h x hm H w.ex (Ex.refl _) (fun v H1 => tVar a σ H1 fun x H2 => ti σ H2 fun y H3 => ∃ a H4, x = .ref a ∧ DPut H3 a y v H4 ∧ tz D σ H4) fun v H3 G3 u r => by
    have w3 := w.up u
    refine ⟨.ref l, hi, (h'.mono u.gg u.hh) k hm' H3 w3.ex (Ex.refl _) _ fun v' H4 G4 u' r' => ?_⟩
    have w4 := w3.up u'
    obtain ⟨_, o, k2, ws, rfl, k3⟩ := w4.w.getAt hc
    obtain ⟨hl, hy⟩ := bifO1 hy
    cases hy
    rw [ky.v r']
    refine ⟨l, _, rfl, DPut.k k2 (by rw [k3.length, sizeLine_eq]; omega), ?_⟩
    exact kk _ _ (w4.writeAt hc ⟨_, rfl, pm_put hj (R.mono u'.gg r) k3⟩) (u.gg.trans u'.gg)
theorem x_putO {a : Nat} (h : te σ H fun v H1 => tVar a σ H1 fun x H2 => ti σ H2 fun y H3 => ∃ a H4, x = .ref a ∧ DPut H3 a y v H4 ∧ tz D σ H4) : tSeq (sDPut (tVar a) ti te) tz D σ H := h
theorem o_putM {a j : Nat} {Sk : Rep κ} {mk : Option κ} {x : α} {v : V} {k : κ} {kvs kvs' : List (κ × α)} (ky : KyR kf Sk) (hj : Inj kf) (w : Wo G0 H0 ls G H cs) (hc : cs[j]? = some (l, cM kf R kvs)) (hi : σ[a]? = some (some (.ref l))) (r : R.r G v x)
    (h' : E ti σ G H Sk mk) (hm' : mk = some k) (hy : putMM kvs k x = some kvs') (kk : ∀ H2 G2, Wo G0 H0 ls G2 H2 (cs.set j (l, cM kf R kvs')) → Ex G G2 → tz D σ H2) :
    tVar a σ H fun x H2 => ti σ H2 fun y H3 => ∃ a H4, x = .ref a ∧ DPut H3 a y v H4 ∧ tz D σ H4 :=
  ⟨.ref l, hi, h' k hm' H w.ex (Ex.refl _) _ fun v' H4 G4 u' r' => by
    have w4 := w.up u'
    obtain ⟨_, o, k2, ws, rfl, k3⟩ := w4.w.getAt hc
    obtain ⟨hl, hy⟩ := bifO1 hy
    cases hy
    rw [ky.v r']
    refine ⟨l, _, rfl, DPut.k k2 (by rw [k3.length, sizeLine_eq]; omega), ?_⟩
    exact kk _ _ (w4.writeAt hc ⟨_, rfl, pm_put hj (R.mono u'.gg r) k3⟩) u'.gg⟩
/-- d[k] -/
theorem e_dget {Sk : Rep κ} {m : Option (List (κ × α))} {mk : Option κ} (ky : KyR kf Sk) (hj : Inj kf) (h : E td σ G W (rM kf R) m) (h' : E ti σ G W Sk mk) : E (tDGet td ti) σ G W R (m >>= fun d => mk >>= fun k => lookM d k) := fun z hz H e e' Q q => by
  obtain ⟨d, hd, hz⟩ := bindS hz
  obtain ⟨k, hk, hz⟩ := bindS hz
  refine h d hd H e e' _ fun v H1 G1 u r => ?_
  refine (h'.mono u.gg (e'.trans u.hh)) k hk H1 u.gh (Ex.refl _) _ fun v' H2 G2 u2 r2 => ?_
  obtain ⟨a, ws, rfl, k2, k3⟩ := (rM kf R).mono u2.gg r
  rcases pm_look hj k k3 with ⟨e1, _⟩ | ⟨w, x, e1, e2, r3⟩
  · rw [e1] at hz; cases hz
  · rw [e1] at hz
    cases hz
    rw [ky.v r2]
    exact ⟨a, w, rfl, by rw [← e2]; exact DGet.k (u2.gh a _ k2), q w H2 G2 (u.trans u2) r3⟩
/-- d.get(k, x) -/
theorem e_dget2 {Sk : Rep κ} {m : Option (List (κ × α))} {mk : Option κ} {mx : Option α} (ky : KyR kf Sk) (hj : Inj kf) (h : E td σ G W (rM kf R) m) (h' : E ti σ G W Sk mk) (hx : E tx σ G W R mx) :
    E (tDGet2 td ti tx) σ G W R (m >>= fun d => mk >>= fun k => mx >>= fun x => some ((lookM d k).getD x)) := fun z hz H e e' Q q => by
  obtain ⟨d, hd, hz⟩ := bindS hz
  obtain ⟨k, hk, hz⟩ := bindS hz
  obtain ⟨x, hx', hz⟩ := bindS hz
  cases hz
  refine h d hd H e e' _ fun v H1 G1 u r => ?_
  obtain ⟨a, ws, rfl, k2, k3⟩ := r
  refine ⟨a, rfl, .inl ⟨ws, .inl (u.gh a _ k2)⟩, ?_⟩
  refine (h'.mono u.gg (e'.trans u.hh)) k hk H1 u.gh (Ex.refl _) _ fun v' H2 G2 u2 r2 => ?_
  refine (hx.mono (u.gg.trans u2.gg) ((e'.trans u.hh).trans u2.hh)) x hx' H2 u2.gh (Ex.refl _) _ fun v3 H3 G3 u3 r3 => ?_
  rw [ky.v r2]
  refine ⟨_, DGet.k (u3.gh a _ (u3.gg a _ (u2.gg a _ k2))), ?_⟩
  rcases pm_look hj k (pm_at (u2.gg.trans u3.gg) k3) with ⟨e1, e2⟩ | ⟨w, y, e1, e2, r4⟩
  · rw [e1] at q; rw [e2]; exact q v3 H3 G3 ((u.trans u2).trans u3) r3
  · rw [e1] at q; rw [e2]; exact q w H3 G3 ((u.trans u2).trans u3) r4
/-- k in d -/
theorem e_din {Sk : Rep κ} {m : Option (List (κ × α))} {mk : Option κ} (ky : KyR kf Sk) (hj : Inj kf) (h' : E ti σ G W Sk mk) (h : E td σ G W (rM kf R) m) : E (tDIn ti td) σ G W rB (mk >>= fun k => m >>= fun d => some (lookM d k).isSome) := fun z hz H e e' Q q => by
  obtain ⟨k, hk, hz⟩ := bindS hz
  obtain ⟨d, hd, hz⟩ := bindS hz
  cases hz
  refine h' k hk H e e' _ fun v' H1 G1 u r2 => ?_
  refine (h.mono u.gg (e'.trans u.hh)) d hd H1 u.gh (Ex.refl _) _ fun v H2 G2 u2 r => ?_
  obtain ⟨a, ws, rfl, k2, k3⟩ := r
  rw [ky.v r2]
  refine ⟨a, _, rfl, DGet.k (u2.gh a _ k2), ?_⟩
  rcases pm_look hj k k3 with ⟨e1, e2⟩ | ⟨w, y, e1, e2, r4⟩ <;> (rw [e1] at q; rw [e2]; exact q _ H2 G2 (u.trans u2) rfl)
theorem e_dnotin {Sk : Rep κ} {m : Option (List (κ × α))} {mk : Option κ} (ky : KyR kf Sk) (hj : Inj kf) (h' : E ti σ G W Sk mk) (h : E td σ G W (rM kf R) m) : E (tDNotIn ti td) σ G W rB (mk >>= fun k => m >>= fun d => some (!(lookM d k).isSome)) := fun z hz H e e' Q q => by
  obtain ⟨k, hk, hz⟩ := bindS hz
  obtain ⟨d, hd, hz⟩ := bindS hz
  cases hz
  refine h' k hk H e e' _ fun v' H1 G1 u r2 => ?_
  refine (h.mono u.gg (e'.trans u.hh)) d hd H1 u.gh (Ex.refl _) _ fun v H2 G2 u2 r => ?_
  obtain ⟨a, ws, rfl, k2, k3⟩ := r
  rw [ky.v r2]
  refine ⟨a, _, rfl, DGet.k (u2.gh a _ k2), ?_⟩
  rcases pm_look hj k k3 with ⟨e1, e2⟩ | ⟨w, y, e1, e2, r4⟩ <;> (rw [e1] at q; rw [e2]; exact q _ H2 G2 (u.trans u2) rfl)
/-- list(d) -/
theorem rc_listM {Sk : Rep κ} (hk : ∀ (G : Hp) (k : κ), Sk.r G (kV (kf k)) k) : RCL rLsD (aC (rM kf R) aN) Sk (fun i => some (i.1.map (·.1))) := fun vs i z H G hv hz e Q q => by
  cases hz
  obtain ⟨d, ⟨⟩⟩ := i
  obtain ⟨v, ws, rfl, ⟨a, us, rfl, h2, h3⟩, rfl⟩ := hv
  refine ⟨a, us, rfl, .inl (e a _ h2), fun p hp => q p _ G hp (up_new e hp) (wd_new e hp ?_)⟩
  clear h2 q
  replace h3 : Paired (fun (p : Key × V) (q : κ × α) => p.1 = kf q.1 ∧ R.r G p.2 q.2) us d := h3
  induction h3 with
  | nil => exact .nil
  | cons h t ih =>
    rename_i a1 b1 _ _
    refine .cons ?_ ih
    show Sk.r G (kV a1.1) b1.1
    rw [h.1]; exact hk _ _
theorem kyrS (G : Hp) (k : Str) : rS.r G (kV (Sum.inr k)) k := rfl
theorem kyrI (G : Hp) (k : Int) : rI.r G (kV (Sum.inl k)) k := rfl
/-- d != e of equal ones (values: ints) -/
def sameM (d e : List (κ × Int)) : Bool := decide (d.length = e.length) && d.all fun p => decide (lookM e p.1 = some p.2)
theorem rr_neM (hj : Inj kf) : RR rNeDA (rM kf rI) (rM kf rI) rB (fun d e => bif sameM d e then some false else none) := fun v w d e' z H G hv hw hz e Q q => by
  obtain ⟨a, ws, rfl, h2, h3⟩ := hv
  obtain ⟨b, us, rfl, k2, k3⟩ := hw
  replace hz : (bif sameM d e' then some false else none) = some z := hz
  cases hb : sameM d e' with
  | false => rw [hb] at hz; cases hz
  | true =>
    rw [hb] at hz
    cases hz
    obtain ⟨b1, b2⟩ := Bool.and_eq_true_iff.mp hb
    replace b1 := of_decide_eq_true b1
    refine ⟨a, b, ws, us, rfl, rfl, e a _ h2, e b _ k2, by rw [h3.length, k3.length]; exact b1, ?_, q _ H G (Up.refl e) rfl⟩
    have b3 : ∀ q ∈ d, lookM e' q.1 = some q.2 := fun q hq => of_decide_eq_true (List.all_eq_true.mp b2 q hq)
    clear hb b2 b1 h2
    induction h3 with
    | nil => intro p hp; cases hp
    | cons h t ih =>
      rename_i p' q' ws' d'
      intro p hp
      rcases List.mem_cons.mp hp with rfl | hp
      · have := b3 q' (List.mem_cons_self ..)
        rcases pm_look hj q'.1 k3 with ⟨e1, _⟩ | ⟨w, y, e1, e2, r4⟩
        · rw [e1] at this; cases this
        · rw [e1] at this
          cases this
          rw [h.1, e2]
          have r5 : p.2 = V.int q'.2 := h.2
          have r6 : w = V.int q'.2 := r4
          rw [r5, r6]
          exact ⟨rfl, rfl⟩
      · exact ih (fun q hq => b3 q (List.mem_cons_of_mem _ hq)) p hp
end
end Sim

/-! displays and making of objects, opened -/
namespace Sim
open PySem L2 Evl
section
variable {K : PySem.W.Frag} {C : Addr} {σ : L2.St} {G0 H0 G H G2 H2 W : Hp} {ls : List Addr} {cs : Cs} {l : Addr} {ta : TA} {sp : Sp} {dvs : List V} {X : XK} {Q : VK} {α β ι : Type} {R : Rep α} {S : Rep β} {A : AR ι}
def tK (vs : List V) : TA := fun _ H Q => Q vs H
theorem ea_k {vs : List V} {i : ι} (h : A.r G vs i) : EA (tK vs) σ G W A (some i) := fun x hx H e e' Q q => by
  cases hx
  exact q vs H G (Up.refl e) h
theorem o_make (h : ta σ H fun vs H1 => tMake C sp dvs X (tK vs) σ H1 Q) : tMake C sp dvs X ta σ H Q := h
theorem o_tup (h : ta σ H fun vs H1 => tTup (tK vs) σ H1 Q) : tTup ta σ H Q := h
theorem c_makeS {fl : α → Ps} {f : ι → Option α} {vs : List V} {i : ι} {z : α} (w : Wo G0 H0 ls G H cs) (hv : A.r G vs i) (hz : f i = some z)
    (k : ∀ v H2 G2, Wo G0 H0 ls G2 H2 cs → Ex G G2 → (rSl C fl).r G2 v z → Q v H2) : tMake C (PIs C A fl f) [] X (tK vs) σ H Q := c_e w (e_makeS (ea_k hv)) (show f i = some z from hz) k
theorem c_makeN {ns : List Str} {fl : α → List Pd} {f : ι → Option α} {vs : List V} {i : ι} {z : α} (w : Wo G0 H0 ls G H cs) (hv : A.r G vs i) (hz : f i = some z)
    (k : ∀ v H2 G2, Wo G0 H0 ls G2 H2 cs → Ex G G2 → (rObj C ns fl).r G2 v z → Q v H2) : tMake C (PI C A ns fl f) [] X (tK vs) σ H Q := c_e w (e_make (ea_k hv)) (show f i = some z from hz) k
theorem c_pairO {v u : V} {x : α} {y : β} (w : Wo G0 H0 ls G H cs) (hx : R.r G v x) (hy : S.r G u y) (k : ∀ v H2 G2, Wo G0 H0 ls G2 H2 cs → Ex G G2 → (rP R S).r G2 v (x, y) → Q v H2) : tTup (tK [v, u]) σ H Q := by
  refine ⟨by show 2 ≤ sizeLine; decide, fun p hp => k _ _ _ (w.up (Up.lay w.ex hp)) (Ex.new (fresh_back w.ex hp)) ⟨p, v, u, rfl, upd_same, R.mono ?_ hx, S.mono ?_ hy⟩⟩
  · exact Ex.new (fresh_back w.ex hp)
  · exact Ex.new (fresh_back w.ex hp)
end
end Sim

/-! slices of lists, f-strings, join -/
namespace Sim
open PySem L2 Evl
section
variable {K : PySem.W.Frag} {σ : L2.St} {G H W : Hp} {te to : TE} {tl th : TO} {α : Type} {R : Rep α}
def EO (t : TO) (σ : L2.St) (G W : Hp) (m : Option (Option Int)) : Prop := ∀ o, m = some o → ∀ H, Ex G H → Ex W H → ∀ Q : Option Int → Hp → Prop, (∀ H2, Ex H H2 → Q o H2) → t σ H Q
theorem eo_no : EO tNoPart σ G W (some none) := fun o ho H _ _ Q q => by
  cases ho
  exact q H (Ex.refl _)
theorem eo_at {m : Option Int} (h : E te σ G W rI m) : EO (tPart te) σ G W (m >>= fun i => some (some i)) := fun o ho H e e' Q q => by
  obtain ⟨i, hi, ho⟩ := bindS ho
  cases ho
  refine h i hi H e e' _ fun v H2 G2 u r => ?_
  exact ⟨i, r, q H2 u.hh⟩
def cutM (xs : List α) (lo hi : Option Int) : List α := (xs.drop (HT.sIx xs.length 0 lo)).take (HT.sIx xs.length xs.length hi - HT.sIx xs.length 0 lo)
theorem pr_cut {P : V → α → Prop} {vs : List V} {xs : List α} (lo hi : Option Int) (h : Paired P vs xs) : Paired P (cutV vs lo hi) (cutM xs lo hi) := by
  unfold cutV cutM
  rw [h.length]
  exact pr_take _ (pr_drop _ h)
theorem el_slice {m : Option (List α)} {ml mh : Option (Option Int)} (h : E te σ G W (rL R) m) (hl : EO tl σ G W ml) (hh : EO th σ G W mh) : EL (tSl (rSlL K) te tl th) σ G W R (m >>= fun xs => ml >>= fun lo => mh >>= fun hi => some (cutM xs lo hi)) := fun z hz H e e' Q q => by
  obtain ⟨xs, hx, hz⟩ := bindS hz
  obtain ⟨lo, hlo, hz⟩ := bindS hz
  obtain ⟨hi, hhi, hz⟩ := bindS hz
  cases hz
  refine h xs hx H e e' _ fun v H1 G1 u r => ?_
  refine hl lo hlo H1 (e.trans u.hh) (e'.trans u.hh) _ fun H2 x2 => ?_
  refine hh hi hhi H2 (e.trans (u.hh.trans x2)) (e'.trans (u.hh.trans x2)) _ fun H3 x3 => ?_
  obtain ⟨a, vs, rfl, h2, h3⟩ := r
  have x := x2.trans x3
  have u1 := u.trans (Up.same u.gh x)
  exact ⟨a, vs, rfl, .inl (.inl (x a _ (u.gh a _ h2))), fun p hp => q p _ G1 (fresh_back u1.hh hp) (u1.trans (up_new u1.gh hp)) (wd_new u1.gh hp (pr_cut lo hi h3))⟩
/-! f-strings -/
def fjS : List (Option Str) → Str → Option Str
  | [], acc => some acc
  | m :: ms, acc => m >>= fun y => addS acc y >>= fjS ms
def EJ (ts : List TE) (σ : L2.St) (G W : Hp) (ms : List (Option Str)) : Prop := ∀ acc z, fjS ms acc = some z → ∀ H, Ex G H → Ex W H → ∀ Q : Str → Hp → Prop, (∀ H2, Ex H H2 → Q z H2) → tJs ts acc σ H Q
theorem ej_nil : EJ [] σ G W [] := fun acc z hz H e e' Q q => by
  cases hz
  exact q H (Ex.refl _)
theorem ej_cons {m : Option Str} {ms : List (Option Str)} {ts : List TE} (h : E te σ G W rS m) (hr : EJ ts σ G W ms) : EJ (te :: ts) σ G W (m :: ms) := fun acc z hz H e e' Q q => by
  obtain ⟨y, hy, hz⟩ := bindS hz
  obtain ⟨w, hw, hz⟩ := bindS hz
  obtain ⟨hl, hw⟩ := bifO1 hw
  cases hw
  refine h y hy H e e' _ fun v H1 G1 u r => ?_
  refine ⟨y, r, by rw [PySem.Str.length_append, sizeLine_eq]; omega, hr _ z hz H1 (e.trans u.hh) (e'.trans u.hh) Q fun H2 x => q H2 (u.hh.trans x)⟩
abbrev tFj (ts : List TE) : TE := fun σ H Q => tJs ts Str.empty σ H fun out H1 => Q (.str out) H1
theorem e_fj {ms : List (Option Str)} {ts : List TE} (h : EJ ts σ G W ms) : E (tFj ts) σ G W rS (fjS ms Str.empty) := fun z hz H e e' Q q =>
  h _ z hz H e e' _ fun H2 x => q _ H2 G (Up.same e x) rfl
def szS (y : Str) : Option Str := bif decide (y.length < 100000) then some y else none
theorem e_fmtS {m : Option Str} (h : E te σ G W rS m) : E (tFmt te) σ G W rS (m >>= fun y => szS y) := fun z hz H e e' Q q => by
  obtain ⟨y, hy, hz⟩ := bindS hz
  obtain ⟨hl, hz⟩ := bifO1 hz
  have hz := Option.some.inj hz
  subst hz
  refine h y hy H e e' _ fun v H1 G1 u r => ?_
  exact .inl ⟨y, r, by rw [sizeLine_eq]; omega, q _ H1 G1 u rfl⟩
theorem e_fmtI {m : Option Int} (h : E te σ G W rI m) : E (tFmt te) σ G W rS (m >>= fun y => strI y) := fun z hz H e e' Q q => by
  obtain ⟨y, hy, hz⟩ := bindS hz
  obtain ⟨hl, hz⟩ := bifO1 hz
  have hz := Option.some.inj hz
  subst hz
  refine h y hy H e e' _ fun v H1 G1 u r => ?_
  refine .inr ⟨y, r, ?_, q _ H1 G1 u rfl⟩
  by_cases h0 : y.natAbs = 0
  · rw [h0]; decide
  · have : y.natAbs.log2 < 64 := (Nat.log2_lt h0).mpr hl
    omega
/-! join -/
abbrev rJoinS (K : PySem.W.Frag) : V → List V → Hp → VK → Prop := fun x xs H Q => ∃ a p, ∃ ys : List Str, x = .str a ∧ xs = [.ref p] ∧ (SqL K H p (ys.map V.str) ∨ SqT K H p (ys.map V.str)) ∧
  (ys.map (·.length)).sum + ys.length * a.length ≤ 16777216 ∧ Q (.str (Txt.join a ys)) H
def joinS (a : Str) (ys : List Str) : Option Str := bif decide ((ys.map (·.length)).sum + ys.length * a.length < 100000) then some (Txt.join a ys) else none
theorem pr_strs {G : Hp} : ∀ {vs : List V} {ys : List Str}, Paired (rS.r G) vs ys → vs = ys.map V.str
  | _, _, .nil => rfl
  | _, _, .cons h t => by rw [pr_strs t, show _ = V.str _ from h]; rfl
theorem e_sjoin {m1 : Option Str} {m2 : Option (List Str)} (ho : E to σ G W rS m1) (he : E te σ G W (rL rS) m2) : E (tM1 (rJoinS K) to te) σ G W rS (m1 >>= fun a => m2 >>= fun ys => joinS a ys) := fun z hz H e e' Q q => by
  obtain ⟨a, ha, hz⟩ := bindS hz
  obtain ⟨ys, hy, hz⟩ := bindS hz
  obtain ⟨hl, hz⟩ := bifO1 hz
  cases hz
  refine ho a ha H e e' _ fun v H1 G1 u r => ?_
  cases r
  refine ⟨⟨a, rfl⟩, (he.mono u.gg (e'.trans u.hh)) ys hy H1 u.gh (Ex.refl _) _ fun w H2 G2 u2 r2 => ?_⟩
  obtain ⟨p, vs, rfl, h2, h3⟩ := r2
  rw [pr_strs h3] at h2
  exact ⟨a, p, ys, rfl, rfl, .inl (.inl (.inl (u2.gh p _ h2))), by omega, q _ H2 G2 (u.trans u2) rfl⟩
/-! p[0], p[1] with effects; a cell's element -/
variable {G0 H0 : Hp} {ls : List Addr} {cs : Cs} {l : Addr} {β : Type} {S : Rep β}
theorem rr_fst : RR (rIxT K) (rP R S) rI R (fun p i => bif i == 0 then some p.1 else none) := fun v w p i z H G hv hw hz e Q q => by
  obtain ⟨a, x, y, rfl, h2, h3, h4⟩ := hv
  cases hw
  cases hb : (i == (0 : Int)) with
  | false => simp only [hb] at hz; cases hz
  | true =>
    simp only [hb] at hz
    cases hz
    rw [beq_iff_eq] at hb
    subst hb
    exact ⟨a, [x, y], 0, x, rfl, rfl, Or.inl (Or.inl (e a _ h2)), rfl, q x H G (Up.refl e) h3⟩
theorem rr_snd : RR (rIxT K) (rP R S) rI S (fun p i => bif i == 1 then some p.2 else none) := fun v w p i z H G hv hw hz e Q q => by
  obtain ⟨a, x, y, rfl, h2, h3, h4⟩ := hv
  cases hw
  cases hb : (i == (1 : Int)) with
  | false => simp only [hb] at hz; cases hz
  | true =>
    simp only [hb] at hz
    cases hz
    rw [beq_iff_eq] at hb
    subst hb
    exact ⟨a, [x, y], 1, y, rfl, rfl, Or.inl (Or.inl (e a _ h2)), rfl, q y H G (Up.refl e) h4⟩
theorem c_ixC {j : Nat} {i : Int} {x : α} {xs : List α} {Q : VK} (w : Wo G0 H0 ls G H cs) (hc : cs[j]? = some (l, cL R xs)) (hm : atI xs i = some x) (k : ∀ v, R.r G v x → Q v H) : rIxL K (.ref l) (.int i) H Q := by
  obtain ⟨_, o3, h1, vs, rfl, h3⟩ := w.w.getAt hc
  have hz' : (ixN xs.length i).bind (fun j => xs[j]?) = some x := hm
  cases hj : ixN xs.length i with
  | none => rw [hj] at hz'; cases hz'
  | some n =>
    rw [hj] at hz'
    obtain ⟨y, h4, h5⟩ := pr_get h3 (show xs[n]? = some x from hz')
    refine ⟨l, vs, i, y, rfl, rfl, Or.inl (Or.inl h1), ?_, k y h5⟩
    show (ixN vs.length i).bind (fun j => vs[j]?) = some y
    rw [h3.length, hj]
    exact h4
/-! C(.., cell, ..) of a class with slots, the cell only read -/
variable {κ ι : Type} {B : Rep κ} {C : Addr} {A : AR ι} {fl : α → Ps} {ad : ι → Addr} {ys : List κ} {ta : TA}
def PIBs (C : Addr) (A : AR ι) (ad : ι → Addr) (B : Rep κ) (fl : α → Ps) (f : List κ → ι → Option α) : Sp := fun vs H Q _ => ∃ G x dx ws i ys o, vs = .ref x :: ws ∧ Wd G H [(x, cN C dx), (dx, cOw x)] ∧ A.r G ws i ∧ Lent G H (ad i) B ys ∧ f ys i = some o ∧
  ∀ H2 G2, Fr G H G2 H2 [x, dx] → Wd G2 H2 [(x, cSl x C dx (fl o)), (dx, cXd)] → Q .non H2
theorem e_makeBS {f : List κ → ι → Option α} {mi : Option ι} {X : XK} (ha : EA ta σ G W A mi) (L : Lent G W l B ys) (hl : ∀ i, mi = some i → ad i = l) : E (tMake C (PIBs C A ad B fl f) [] X ta) σ G W (rSl C fl) (mi >>= fun i => f ys i) := fun z hz H e e' Q q => by
  obtain ⟨i, hi, hz⟩ := bindS hz
  refine ha i hi H e e' _ fun vs H1 G1 u1 r1 => ?_
  have := hl i hi
  subst this
  intro x dx nx ndx ne
  rw [List.append_nil]
  have L1 := L.up e' u1
  have L2 : Lent G1 (upd (upd H1 dx (.own x)) x (.ins C dx [])) (ad i) B ys := by
    obtain ⟨vs', h2, h3⟩ := L1.at_
    exact ⟨L1.n, vs', by rw [upd_ne (ne_of_none h2 nx), upd_ne (ne_of_none h2 ndx)]; exact h2, h3⟩
  refine ⟨G1, x, dx, vs, i, ys, z, rfl, new_slt u1.gh nx ndx ne, r1, L2, hz, fun H2 G2 fr w2 => ⟨rfl, ?_⟩⟩
  obtain ⟨G3, k1, k2, k3, vs', k4, k5, k6⟩ := sl_freeze w2
  have hh : Ex H1 H2 := fun a o h => by
    have na : a ≠ x := ne_of_none h nx
    have nd : a ≠ dx := ne_of_none h ndx
    exact fr.fr a o (by rw [upd_ne na, upd_ne nd]; exact h) fun z => by simp [na, nd] at z
  have up : Up G1 H1 G3 H2 := ⟨fr.gg.trans k1, k2, hh, fun a h1 h2 => by
    have na : a ≠ x := fun z => by subst z; exact h1 nx
    have nd : a ≠ dx := fun z => by subst z; exact h1 ndx
    exact k3 a na nd (fr.nw a (by rw [upd_ne na, upd_ne nd]; exact h1) h2)⟩
  exact q _ H2 G3 (u1.trans up) ⟨x, dx, vs', rfl, k4, k5, k6⟩
theorem Lent.neS {x dx : Addr} (L : Lent G H l B ys) (w : Wd G H [(x, cN C dx), (dx, cOw x)]) : l ∉ [x, dx] := fun z => by
  obtain ⟨vs, h2, _⟩ := L.at_
  rcases List.mem_cons.mp z with rfl | z
  · obtain ⟨_, o, k2, k3⟩ := w.head
    rw [k2] at h2
    cases h2
    cases k3
  · rw [List.mem_singleton] at z
    subst z
    obtain ⟨_, o, k2, k3⟩ := w.tail.head
    rw [k2] at h2
    cases h2
    cases k3
/-! comprehensions over a lent list -/
def GoesL (J : It) (H1 G1 : Hp) (R : Rep α) (xs : List α) : Prop :=
  ∀ i H, Ex H1 H → (i = xs.length → J.stop i H) ∧ ∀ x, xs[i]? = some x → J.go i H ∧ ∀ v H', J.yld i H v H' → H' = H ∧ R.r G1 v x
def SrcL (wi : TI) (σ : L2.St) (G W : Hp) (R : Rep α) (m : Option (List α)) : Prop :=
  ∀ xs, m = some xs → ∀ H, Ex G H → Ex W H → ∀ k : It → Hp → Prop, (∀ J H1 G1, Up G H G1 H1 → GoesL J H1 G1 R xs → k J H1) → wi σ H k
theorem src_lent {xs : List α} {n : Nat} (L : Lent G W l R xs) (hi : σ[n]? = some (some (.ref l))) : SrcL (iList K (tVar n)) σ G W R (some xs) := fun xs' hx H e e' k q => by
  cases hx
  obtain ⟨us, h2, h3⟩ := L.at_
  refine ⟨.ref l, hi, l, rfl, ⟨us, Or.inl (Or.inl (e' _ _ h2))⟩, q _ H G (Up.refl e) fun i H' e1 => ⟨fun hi => ?_, fun x hx => ?_⟩⟩
  · subst hi; exact ⟨us, Or.inl (Or.inl (e1 _ _ (e' _ _ h2))), by rw [h3.length]; exact Nat.le_refl _⟩
  · obtain ⟨v, hv, r⟩ := pr_get h3 hx
    refine ⟨⟨us, v, Or.inl (Or.inl (e1 _ _ (e' _ _ h2))), hv⟩, fun w H2 y => ?_⟩
    obtain ⟨rfl, y⟩ := y
    have := y us (Or.inl (Or.inl (e1 _ _ (e' _ _ h2))))
    rw [hv] at this
    cases this
    exact ⟨rfl, r⟩
section
variable {γ : Type} {T : Rep γ} {wi : TI} {g : TG} {tt : TT}
/-- [e2 for x in xs if f1] -/
theorem el_lc1L {vs : List Nat} {m : Option (List α)} {f1 : α → Option Bool} {e2 : α → Option γ} {P : Hp → α → L2.St → L2.St → Prop}
    (h : SrcL wi σ G W R m) (hg : Tgt g R P) (hw : ∀ x G' σ2, P G' x (wipe σ vs) σ2 → wipe σ2 vs = wipe σ vs)
    (ht : ∀ x σ2 G' W', Ex G G' → Ex W W' → Ex G' W' → P G' x (wipe σ vs) σ2 → ET tt σ2 W' (f1 x))
    (he : ∀ x σ2 G' W', Ex G G' → Ex W W' → Ex G' W' → P G' x (wipe σ vs) σ2 → E te σ2 G' W' T (e2 x)) :
    EL (tLc wi g tt te vs) σ G W T (m >>= fun xs => lcS f1 e2 xs) := fun zs hz H e e' Q q => by
  obtain ⟨xs, hx, hz⟩ := bindS hz
  obtain ⟨hs, hz⟩ := lcS_ok hz
  refine h xs hx H e e' _ fun J H1 G1 u gs D hD => ?_
  have e1 : Ex W H1 := e'.trans u.hh
  refine ⟨fun i n H' => n = xs.length - i ∧ i ≤ xs.length ∧ ∃ G' acc ys rest, Acc G1 H1 T D G' H' acc ys ∧ lcM f1 e2 (xs.drop i) = some rest ∧ ys ++ rest = zs ∧ ys.length ≤ i, ⟨_, rfl, Nat.zero_le _, G1, [], [], zs, Acc.start u.gh hD, hz, rfl, Nat.le_refl _⟩, ?_⟩
  rintro i n H' ⟨rfl, hi', G', acc, ys, rest, A, hr, hzs, hyl⟩
  have gx := gs i H' A.u.hh
  by_cases hlt : i < xs.length
  · obtain ⟨x, hx⟩ : ∃ x, xs[i]? = some x := ⟨_, List.getElem?_eq_getElem hlt⟩
    obtain ⟨go, yl⟩ := gx.2 x hx
    rw [drop_at hx] at hr
    obtain ⟨b, hb, hr⟩ := bindS hr
    refine .inr ⟨go, fun H' => ∃ G' acc ys rest, Acc G1 H1 T D G' H' acc ys ∧ lcM f1 e2 (xs.drop (i + 1)) = some rest ∧ ys ++ rest = zs ∧ ys.length ≤ i + 1, fun H2 ⟨G2, a2, y2, r2, A2, k1, k2, k3⟩ => ⟨xs.length - (i + 1), by omega, rfl, hlt, G2, a2, y2, r2, A2, k1, k2, k3⟩, fun v H2 y => ?_⟩
    obtain ⟨rfl, r⟩ := yl v H2 y
    refine hg v x _ G' H2 _ A.u.gh (R.mono A.u.gg r) fun σ2 p => ⟨hw x G' σ2 p, ?_⟩
    refine ht x σ2 G' H2 (u.gg.trans A.u.gg) (e1.trans A.u.hh) A.u.gh p b hb H2 (Ex.refl _) _ fun H3 e3 => ?_
    have A := A.sc e3
    cases b with
    | false => exact ⟨G', acc, ys, rest, A, hr, hzs, by omega⟩
    | true =>
      obtain ⟨z, hz', hr⟩ := bindS hr
      obtain ⟨t, ht', hr⟩ := bindS hr
      cases hr
      show te σ2 H3 _
      refine he x σ2 G' H3 (u.gg.trans A.u.gg) (e1.trans A.u.hh) A.u.gh p z hz' H3 A.u.gh (Ex.refl _) _ fun w H8 G8 u8 r8 => ?_
      have A8 := A.up u8
      refine ⟨acc, A8.hd, ?_, G8, _, _, t, A8.add r8, ht', by rw [← hzs]; simp, by simp; omega⟩
      rw [A8.pr.length]
      refine sz_l (n := ys.length) (decide_eq_true ?_)
      have h9 := of_decide_eq_true hs
      omega
  · have ei : i = xs.length := by omega
    subst ei
    rw [List.drop_length] at hr
    cases hr
    rw [List.append_nil] at hzs
    subst hzs
    obtain ⟨G9, k1, k2, k3⟩ := A.fin
    exact .inl ⟨gx.1 rfl, q D H' G9 (fresh_back u.hh k1) (u.trans k2) k3⟩
end
/-! what is never reached -/
def tsNo : TS := fun _ _ _ => False
theorem pss_no {X : Cx} {ss : List Stmt} : PSs X ss tsNo := ⟨fun _ _ _ _ _ _ h => h.elim⟩
end
end Sim

/-! for .. in zip(tuple, tuple) -/
namespace Sim
open PySem L2 Evl
section
variable {K : PySem.W.Frag} {σ : L2.St} {G0 H0 G H W : Hp} {ls : List Addr} {cs : Cs} {ta : TA} {α β : Type} {R : Rep α} {S : Rep β} {D : Ends} {tu tz : TS} {g : TG}
theorem for_zipU {a b : Addr} {xs ys : List V} {g : TG} {tb : TS} {D : Ends} {σ : L2.St} {H : Hp} (Pv : Nat → L2.St → Hp → Prop) (h0 : Pv 0 σ H) (hq : ∀ i σ H, Pv i σ H → SqT K H a xs ∧ SqT K H b ys)
    (hs : ∀ (i : Nat) (x y : V) (T : Addr) (σ : L2.St) (H : Hp), xs[i]? = some x → ys[i]? = some y → Pv i σ H → H T = none → g (.ref T) σ (upd H T (.tup [x, y])) fun σ2 H2 => tb { D with nx := Pv (i + 1), ct := Pv (i + 1), bk := D.nx } σ2 H2) (hd : ∀ σ H, Pv (min xs.length ys.length) σ H → D.nx σ H) :
    ∃ W : Nat → Nat → L2.St → Hp → Prop, (∃ m, W 0 m σ H) ∧ ∀ i m σ H, W i m σ H →
      ((RZ.ItzT K a b).stop i H ∧ D.nx σ H) ∨ ((RZ.ItzT K a b).go i H ∧ ∃ N : L2.St → Hp → Prop, (∀ σ' H', N σ' H' → ∃ m', m' < m ∧ W (i + 1) m' σ' H') ∧ ∀ v H', (RZ.ItzT K a b).yld i H v H' → g v σ H' fun σ2 H2 => tb { D with nx := N, ct := N, bk := D.nx } σ2 H2) := by
  refine ⟨fun i m σ H => m = min xs.length ys.length - i ∧ i ≤ min xs.length ys.length ∧ Pv i σ H, ⟨_, rfl, Nat.zero_le _, h0⟩, ?_⟩
  rintro i m σ H ⟨rfl, hi, p⟩
  obtain ⟨qx, qy⟩ := hq i σ H p
  by_cases hlt : i < min xs.length ys.length
  · have h1 : i < xs.length := by omega
    have h2 : i < ys.length := by omega
    have hx : xs[i]? = some xs[i] := List.getElem?_eq_getElem h1
    have hy : ys[i]? = some ys[i] := List.getElem?_eq_getElem h2
    refine .inr ⟨⟨xs, ys, _, _, qx, qy, hx, hy⟩, Pv (i + 1), fun σ' H' p' => ⟨min xs.length ys.length - (i + 1), by omega, rfl, hlt, p'⟩, fun v H' y => ?_⟩
    obtain ⟨T, x', y', rfl, hT, rfl, f1, f2⟩ := y
    exact hs i x' y' T σ H (f1 xs qx) (f2 ys qy) p hT
  · have e : i = min xs.length ys.length := by omega
    subst e
    exact .inl ⟨⟨xs, ys, qx, qy, by omega⟩, hd σ H p⟩
theorem x_forZ {xs : List α} {ys : List β} {m : Option (List α × List β × Unit)} (w : Wo G0 H0 ls G H cs) (h : EA ta σ G H (aC (rT R) (aC (rT S) aN)) m) (hm : m = some (xs, ys, ())) (P : Nat → Hp → Hp → L2.St → Prop) (hP : ∀ i G' H' σ', P i G' H' σ' → Ex G' H')
    (hW : ∀ i G' H' σ' T o, P i G' H' σ' → H' T = none → P i (upd G' T o) (upd H' T o) σ')
    (h0 : ∀ G' H', Wo G0 H0 ls G' H' cs → Ex G G' → P 0 G' H' σ)
    (hs : ∀ G1, Ex G G1 → ∀ i x v σ' G' H', (xs.zip ys)[i]? = some x → Ex G1 G' → P i G' H' σ' → (rP R S).r G' v x → g v σ' H' fun σ2 H2 => tu { D with nx := fun σ' H' => ∃ G', Ex G1 G' ∧ P (i + 1) G' H' σ', ct := fun σ' H' => ∃ G', Ex G1 G' ∧ P (i + 1) G' H' σ', bk := tz D } σ2 H2)
    (hd : ∀ σ' G' H', Ex G G' → P (xs.zip ys).length G' H' σ' → tz D σ' H') : tSeq (tFor (RZ.iZipA K ta) g tu) tz D σ H :=
  h _ hm H w.ex (Ex.refl _) _ fun vs H1 G1 u r => by
    obtain ⟨v, ws, rfl, r1, v2, ws2, rfl, r2, rfl⟩ := r
    obtain ⟨a, us, rfl, a2, a3⟩ := r1
    obtain ⟨b, us2, rfl, b2, b3⟩ := r2
    refine ⟨a, b, us, us2, rfl, .inr ⟨.inl (.inl (u.gh a _ a2)), .inl (.inl (u.gh b _ b2)), for_zipU (K := K) (xs := us) (ys := us2) (D := { D with nx := tz D }) (fun i σ' H' => ∃ G', Ex G1 G' ∧ P i G' H' σ') ⟨G1, Ex.refl _, h0 G1 H1 (w.up u) u.gg⟩ ?_ ?_ ?_⟩⟩
    · rintro i σ' H' ⟨G', e, p⟩
      exact ⟨.inl (.inl (hP _ _ _ _ p a _ (e a _ a2))), .inl (.inl (hP _ _ _ _ p b _ (e b _ b2)))⟩
    · rintro i y z T σ' H' hy hz ⟨G', e, p⟩ hT
      obtain ⟨x, hx, rx⟩ := pr_get' a3 hy
      obtain ⟨x2, hx2, rx2⟩ := pr_get' b3 hz
      have e1 : Ex G' (upd G' T (.tup [y, z])) := Ex.new (fresh_back (hP _ _ _ _ p) hT)
      refine hs G1 u.gg i (x, x2) (.ref T) σ' (upd G' T (.tup [y, z])) (upd H' T (.tup [y, z])) ?_ (e.trans e1) (hW _ _ _ _ _ _ p hT) ⟨T, y, z, rfl, upd_same, R.mono (e.trans e1) rx, S.mono (e.trans e1) rx2⟩
      rw [List.getElem?_zip_eq_some]
      exact ⟨hx, hx2⟩
    · rintro σ' H' ⟨G', e, p⟩
      rw [a3.length, b3.length] at p
      exact hd σ' G' H' (u.gg.trans e) (by rw [List.length_zip]; exact p)
/-! displays of lists, sums of lists, opened -/
def eK (v : V) : TE := fun _ H Q => Q v H
theorem e_K {v : V} {x : α} (h : R.r G v x) : E (eK v) σ G W R (some x) := fun z hz H e e' Q q => by
  cases hz
  exact q v H G (Up.refl e) h
theorem o_lst {Q : VK} (h : ta σ H fun vs H1 => tLst (tK vs) σ H1 Q) : tLst ta σ H Q := h
theorem c_lstN {vs : List V} {xs : List α} {Q : VK} (w : Wo G0 H0 ls G H cs) (hp : Paired (R.r G) vs xs) (hn : xs.length < 100000) (k : ∀ v H2 G2, Wo G0 H0 ls G2 H2 cs → Ex G G2 → (rL R).r G2 v xs → Q v H2) : tLst (tK vs) σ H Q := by
  refine ⟨sz_of (by rw [hp.length]; exact Nat.le_of_lt hn), fun p hp' => k _ _ _ (w.up (Up.lay w.ex hp')) (Ex.new (fresh_back w.ex hp')) ⟨p, vs, rfl, upd_same, Paired.mapP hp fun _ _ => R.mono (Ex.new (fresh_back w.ex hp'))⟩⟩
theorem c_opL {γ : Type} {T : Rep γ} {r : R2} {f : α → β → Option (List γ)} {v u : V} {x : α} {y : β} {z : List γ} {Q : VK} (hr : RRL r R S T f) (w : Wo G0 H0 ls G H cs) (hv : R.r G v x) (hw : S.r G u y) (hz : f x y = some z)
    (k : ∀ v H2 G2, Wo G0 H0 ls G2 H2 cs → Ex G G2 → (rL T).r G2 v z → Q v H2) : r v u H Q := by
  have := c_e (σ := []) (te := tOp r (eK v) (eK u)) (Q := Q) w (EL.e (el_op hr (e_K hv) (e_K hw))) (show (some x >>= fun x => some y >>= fun y => f x y) = some z from hz) k
  exact this
end
end Sim

/-! an object called: x(..), x of an own class with __call__ -/
namespace PySem.W
open PySem PySem.Spec PySem.Calls PyProof.Rows
theorem kcoX_callWith {M : Model} {A : Around} {E : Value → Shared → Prop} {s : Shared} {env : Env} {pos : Pos} {x C : Addr} {ox : Obj} {first : List Value} {Q : Value → Shared → Prop} {e : Expr} {rest : List Expr} (hd : ox.data = .plain)
    (h : wpAny M A (spliced (backTo pos (starEach (e :: rest) env))) (fun vs s₁ => (∃ od, InstAt s₁.heap x ox C od) ∧ wpAny M A (call (.ref x) (first ++ vs)) Q E s₁) E s)
    (he : starEach (e :: rest) env = (false, eval e env) :: starEach rest env := by rfl) (hpl : (backTo pos (starEach rest env)).any (·.1) = false := by rfl) :
    wpAny M A (callWith pos (.ref x) first (backTo pos (starEach (e :: rest) env)) []) Q E s := by
  rw [he] at h ⊢
  have hplain : ((backTo pos ((false, eval e env) :: starEach rest env)).any (·.1) || ([] : List (Option Str × Sem Value)).any (·.1.isNone)) = false := by
    show ((false || (backTo pos (starEach rest env)).any (·.1)) || false) = false
    rw [hpl]; rfl
  have h : wpAny M A (evalArgs (.ref x) true (backTo pos ((false, eval e env) :: starEach rest env)) []) (fun a s₁ => (∃ od, InstAt s₁.heap x ox C od) ∧ wpAny M A (call (.ref x) (first ++ a.pos) a.kw) Q E s₁) E s := evalArgs_plain h
  unfold callWith
  refine wpAny_bind (wpAny_holding (wpAny_mono h (fun a s₁ h₁ => wpAny_bind (wpAny_standAt ?_)) fun _ _ y => y))
  obtain ⟨⟨od, I⟩, h₁⟩ := h₁
  have L := kco_keeper (M := M) I hd
  simp only [hplain]
  refine wpAny_bind (L.here ?_)
  have tail : ∀ {t : Sem Value}, wpAny M A t Q E s₁ → wpAny M A (t >>= fun r => holding [r] point >>= fun _ => pure r) Q E s₁ :=
    fun ht => wpAny_bind (wpAny_mono ht (fun r s₂ hr => wpAny_bind (wpAny_holding (wpAny_point (wpAny_pure hr)))) fun _ _ y => y)
  exact tail (wpAny_operateT h₁)
end PySem.W
namespace L2
open PySem PySem.Spec PyProof.Rows
section
variable {X : Cx} {CX : CXT} {k i : Nat} {f C : Addr} {fd : FuncData} {ps : List Str} {sp : Sp} {E : St → XK} {x : Str} {p pos : Pos} {e : Expr} {es : List Expr} {t : TA}
/-- the promise of x(..) for the instances of the class at C -/
def HeldO (P : Program) (w : World) (K : PySem.W.Frag) (mg : Str → Option Value) (base : Heap) (CX : CXT) (k : Nat) (C : Addr) (sp : Sp) : Prop :=
  ∃ f fd ps, Meth K C "__call__" f ∧ PySem.W.fnIn K f = true ∧ FnOk P w K mg base CX k f fd ps sp ∧ Binds K fd ps []
/-- x(e, ..), x in the i-th slot an instance of a class whose promise S tells -/
def tCallO (i : Nat) (S : Addr → Option Sp) (E : St → XK) (t : TA) : TE := fun σ H Q => ∃ a C dx fs sp, σ[i]? = some (some (.ref a)) ∧ H a = some (.ins C dx fs) ∧ S C = some sp ∧ t σ H fun vs H1 => (∃ gs, H1 a = some (.ins C dx gs)) ∧ sp (.ref a :: vs) H1 Q (E σ)
theorem pe_callO {S : Addr → Option Sp} (hN : X.N[i]? = some x) (hv : Vis X.env.scope x) (hS : ∀ C sp, S C = some sp → HeldO X.prog X.w X.K X.mg X.base CX k C sp) (hr : Room k X.A) (hx : ∀ σ, PassesAt CX X σ (E σ)) (ha : PA X (e :: es) t)
    (hdb : (x == ("__debug__" : Str)) = false := by decide) (hcd : (x == ("__classdict__" : Str)) = false := by decide)
    (he : starEach (e :: es) X.env = (false, eval e X.env) :: starEach es X.env := by rfl) (hpl : (backTo pos (starEach es X.env)).any (·.1) = false := by rfl) : PE X (.Call (.Name x p) (e :: es) [] pos) (tCallO i S E t) := by
  refine ⟨fun pins s σ H Q I h => ?_⟩
  obtain ⟨a, C, dx, fs, sp, hs, ea, hSC, ht⟩ := h
  obtain ⟨f, fd, ps, M, hfn, F, hb⟩ := hS C sp hSC
  refine wpAny_Call_Name_kw (thn ((pe_var (pos := p) hN hv hdb hcd).run pins s σ H (fun v H1 => v = .ref a ∧ H1 = H) I ⟨.ref a, hs, rfl, rfl⟩) fun u s1 ⟨v, H1, I1, r1, q1⟩ => ?_)
  obtain ⟨rfl, rfl⟩ := q1
  cases r1
  refine PySem.W.kcoX_callWith (ox := PySem.W.instObj C dx) (C := C) rfl (thn (ha.run pos pins s1 σ _ _ I1 ht) fun us s2 ⟨vs, H2, I2, r, ⟨gs, ga⟩, q⟩ => ?_) he hpl
  obtain ⟨mA, J, _⟩ := ins_get I2.hok ga
  obtain ⟨od, J, _⟩ := J.look
  refine ⟨⟨od, J⟩, ?_⟩
  have r' : Vals (.ref a :: vs) (.ref a :: us) := .cons rfl r
  have hl : (Value.ref a :: us).length = ps.length := by rw [← r'.length]; exact F.len _ _ _ _ q
  have b := hb s2 (.ref a :: us) I2.kIn (by rw [List.append_nil]; exact hl)
  rw [List.append_nil] at b
  refine wpAny_call (PySem.W.kco_code (K := X.K) (C := C) (f := f) I2.kIn J rfl M.at_ M.fn hfn (codeAny_mono (F.run X.A X.stack s2 H2 ⟨.ref a :: us, []⟩ (.ref a :: us) (.ref a :: vs) Q (E σ) hr I2.env0 b r' q) fun r s' hq => ?_))
  cases r with
  | error e => exact hx σ pins H2 s2 e s' I2 hq
  | ok fl =>
    cases fl with
    | ret u => exact I2.after hq
    | next => exact False.elim hq
    | brk => exact False.elim hq
    | cont => exact False.elim hq
end
end L2

set_option maxHeartbeats 4000000
/-! own classes: an __init__ whose first statement is super().__init__(..), over an own class's __init__ -/
namespace Sim
open PySem PySem.Spec PyProof.Rows L2 PySem.W PySem.Calls NdefX
/-- what the written part says of such an __init__, written in the class at D, of an instance of the class at C -/
structure SupP (P : Program) (K : Frag) (mg : Str → Option Value) (D C f g : Addr) (fd : FuncData) (F : NF) (ps : List Str) (dvs : List V) : Prop where
  lk : ∃ oc od osl dV kV doc pm an ct, fd = PySem.W.fnX F.name F.qual F.params F.body F.scope F.cl dV kV doc pm an (.ref F.c) ct ∧ K.lookup f = some ⟨oc, od, .func fd, osl⟩ ∧ DflV K dV dvs
  cd : PySem.W.codeIn K (.ref F.c) F.qual = true
  cl : ∃ cc oc od osl, F.cl = [(("__class__" : Str), cc)] ∧ K.lookup cc = some ⟨oc, od, .cell (some (.ref D)), osl⟩
  par : ∃ ar ps', (F.params.posonlyargs ++ F.params.args).head? = some ar ∧ ps = ar.arg :: ps' ∧ F.scope.names.lookup ar.arg = some .local
  code : ∃ ccl cdd vs ccs file tf, K.lookup F.c = some ⟨ccl, cdd, .fields vs, ccs⟩ ∧ vs[2]? = some (.str file tf) ∧ ((P.main.file : Str) == file) = true
  cls : ∃ cdD, clsIn K D = some cdD
  clsC : ∃ cdC, clsIn K C = some cdC
  sub : mroIn K C (.ref D) = some true
  ks : F.scope.names.lookup ("super" : Str) = some .globalImplicit
  kc : F.scope.names.lookup ("__class__" : Str) = some .free
  mg : mg "super" = none
  top : (P.main.scope.names.lookup ("super" : Str)).isSome = false
  opq : nsIn K cStatics "thirdparty.any" = some none
  sup : ks_superIn K C D "__init__" = some (some (.ref g))
  gt : typeIn K (.ref g) = some (.type "function")
  gf : fnIn K g = true
section
variable {CX : CXT} {P : Program} {w : World} {K : PySem.W.Frag} {mg : Str → Option Value} {base : Heap} {N ps psg : List Str} {F : NF} {C D f g : Addr} {fd fdg : FuncData} {k : Nat} {sp spg : Sp} {e : Expr} {es : List Expr} {rest : List Stmt} {p0 p1 p2 p3 p4 : Pos} {pl : Sem Bool}
theorem fn_sup (S : NScope N ps ["__class__"] F.scope) {dvs : List V} (Y : SupP P K mg D C f g fd F ps dvs) (G : FnOk P w K mg base CX0 k g fdg psg spg) (bg : Binds K fdg psg [])
    (hbd : F.body = .Expr (.Call (.Attribute (.Call (.Name "super" p0) [] [] p1) "__init__" p2) (e :: es) [] p3) p4 :: rest)
    (hev : ∀ L : Addr, eval (.Call (.Attribute (.Call (.Name "super" p0) [] [] p1) "__init__" p2) (e :: es) [] p3) (envF F f L) = (do
      let ov ← attributeBase (.Call (.Name "super" p0) [] [] p1) "__init__" (envF F f L) (eval (.Call (.Name "super" p0) [] [] p1) (envF F f L))
      standAt p2.atName
      let (g, first) ← holding [ov] (getMethod ov "__init__" pl)
      callWith p3 g first (backTo p3 (starEach (e :: es) (envF F f L))) []))
    (hint : ∀ L : Addr, interactive (envF F f L) = false)
    (hst : ∀ L : Addr, starEach (e :: es) (envF F f L) = (false, eval e (envF F f L)) :: starEach es (envF F f L))
    (hpl : ∀ L : Addr, (backTo p3 (starEach es (envF F f L))).any (·.1) = false)
    (len : ∀ vs H Q E, sp vs H Q E → vs.length = ps.length)
    (hbody : ∀ (A : Around) (outer : List Env) (s : Shared) (H : Hp) (vs : List V) (Q : VK) (E : XK), Room k (A.deeper (envF F f s.heap.objs.size)) → sp vs H Q E →
      ∃ a vs' dx fs, vs = .ref a :: vs' ∧ H a = some (.ins C dx fs) ∧ ∃ t tt, PA (ncx CX P w K mg base N F f A outer s H E) (e :: es) t ∧ PSs (ncx CX P w K mg base N F f A outer s H E) rest tt ∧
        t (startF N vs [none]) H fun ws H1 => spg (.ref a :: ws) H1 (fun _ H2 => tt { nx := fun _ H' => Q .non H', rt := Q } (startF N vs [none]) H2) E0) :
    FnOk P w K mg base CX (k + 1) f fd ps sp := by
  obtain ⟨oc, od, osl, dV, kV, doc, pm, an, ct, rfl, lk, _⟩ := Y.lk
  refine ⟨len, fun A outer s H args us vs Q E hr e0 hb r hsp => ?_⟩
  have hl := len _ _ _ _ hsp
  have KX : K.In s.heap := e0.mod.kin.keeps fun b o e => (e0.bs b o e).1
  have lim : s.heap.NoLimit := e0.mod.nolimit.keeps fun b o e => (e0.bs b o e).1
  refine codeAny_call_function hr.depth (KX _ _ lk) rfl S.co S.gen rfl (PySem.W.codeRec_of KX Y.cd) (hb _ _ _ _ ?_)
  refine wpAny_newFunctionEnv S.nocell (fun ⟨n, _⟩ hy => S.par n (List.of_mem_zip hy).1) (fun h₁ hns hsb => ⟨lim.fresh _ hsb, ?_⟩) S.kind
  show codeAny _ _ (.func F.body (envF F f s.heap.objs.size)) _ _
  have kp : ∀ b o, s.heap.get? b = some o → h₁.get? b = some o := fun b o e => hsb.extBut b o (Nat.ne_of_lt (Heap.lt_size e)) (Heap.get?_push_of_some _ e)
  obtain ⟨a, vs', dxa, fsa, rfl, ea, ta, tt, hta, ht, hq⟩ := hbody A outer s H vs Q E (hr.deeper _) hsp
  obtain ⟨cc, kc0, kc1, kc2, hcl, hcc⟩ := Y.cl
  have ccb : base.get? cc = some ⟨kc0, kc1, .cell (some (.ref D)), kc2⟩ := e0.mod.kin _ _ hcc
  have CA : CellsAt F.cl ["__class__"] [none] s.heap H := by
    rw [hcl]
    have look : ∀ y c, ([(("__class__" : Str), cc)] : List (Str × Addr)).lookup y = some c → y = "__class__" ∧ c = cc := fun y c e => by
      rw [List.lookup_cons] at e
      cases h : (y == ("__class__" : Str)) with
      | true => rw [h] at e; cases e; exact ⟨eq_of_beq h, rfl⟩
      | false => rw [h] at e; cases e
    refine ⟨rfl, fun y c e => ?_, fun x y c e1 e2 => ?_, fun i y e => ?_⟩
    · obtain ⟨_, rfl⟩ := look y c e
      exact ⟨(e0.bs _ _ ccb).2, _, ⟨_, (e0.bs _ _ ccb).1, rfl⟩⟩
    · rw [(look x c e1).1, (look y c e2).1]
    · cases i with
      | zero =>
        cases e
        exact ⟨cc, by rfl, fun v e => by cases e⟩
      | succ i => cases e
  have I : Inv (ncx CX P w K mg base N F f A outer s H E) [] (startF N (.ref a :: vs') [none]) H { s with heap := h₁, toks := s.toks + (ps.zip us).length } := inv_startN S hr.hd e0 hl r CA hns kp
  refine ks_codeAny_funcAt ?_
  have fin : ∀ {σ' : L2.St} {H' : Hp} {v : V} {u : Value} {s' : Shared}, Inv (ncx CX P w K mg base N F f A outer s H E) [] σ' H' s' → RelV v u → Q v H' → CE outer P w H s Q u s' :=
    fun {σ' H' v u s'} J rv q => ⟨v, H', J.os, J.bare, J.base, J.hok, rv, q⟩
  have tail : ∀ (s1 : Shared) (H2 : Hp), Inv (ncx CX P w K mg base N F f A outer s H E) [] (startF N (.ref a :: vs') [none]) H2 s1 → tt { nx := fun _ H' => Q .non H', rt := Q } (startF N (.ref a :: vs') [none]) H2 →
      _root_.PySem.wpAt (model P w) (A.deeper (envF F f s.heap.objs.size)) (.func F.body (envF F f s.heap.objs.size)) (execs rest (envF F f s.heap.objs.size)) (fun f s' => CR CX outer P w H s Q E (.ok (.ret (match f with | .ret v => v | _ => .none))) s')
        (fun e s' => wpAny (model P w) (A.deeper (envF F f s.heap.objs.size)) (leaving (envF F f s.heap.objs.size) e) (fun _ s'' => CR CX outer P w H s Q E (.error e) s'') (fun e' s'' => CR CX outer P w H s Q E (.error e') s'') s') s1 := by
    intro s1 H2 I1 hq2
    refine wpAt_of_wpAny (wpAny_mono (ht.run [] _ (startF N (.ref a :: vs') [none]) H2 _ I1 hq2) (fun fl s' hs => ?_) fun e s' hs => hs)
    cases fl with
    | ret u =>
      obtain ⟨v, σ', H', J, rv, q⟩ := hs
      exact fin J rv q
    | next =>
      obtain ⟨σ', H', J, q⟩ := hs
      exact fin (v := V.non) (u := Value.none) J rfl q
    | brk =>
      obtain ⟨_, _, _, q⟩ := hs
      exact False.elim q
    | cont =>
      obtain ⟨_, _, _, q⟩ := hs
      exact False.elim q
  rw [hbd]
  rw [← hbd]
  refine (congrArg (fun z => _root_.PySem.wpAt (model P w) (A.deeper (envF F f s.heap.objs.size)) (.func F.body (envF F f s.heap.objs.size)) (execs z (envF F f s.heap.objs.size)) _ _ _) hbd).mpr ?_
  refine ks_wpAt_execs_cons (ks_wpAt_Expr_any (ks_wpAt_MethodCall ?_ (hev _)) (hint _))
  obtain ⟨ar, ps', hp, hps, hka⟩ := Y.par
  obtain ⟨ccl, cdd, cvs, ccs, file, tf, hcode, hvs, hfile⟩ := Y.code
  obtain ⟨cdD, hD⟩ := Y.cls
  obtain ⟨oD, hD1, hD2⟩ : ∃ oD, h₁.get? D = some oD ∧ oD.data = .cls cdD := by
    unfold clsIn at hD
    split at hD
    · rename_i c d cd' sl ho
      cases hD
      exact ⟨_, I.kIn _ _ ho, rfl⟩
    · cases hD
  obtain ⟨mA, J, _⟩ := ins_get I.hok ea
  obtain ⟨oda, J, _⟩ := J.look
  have ho := J.at_
  obtain ⟨mb, hb1, hb2⟩ := I.mod.blt
  have hboot : bootBuiltins "super" = some (.type "super") := by kernel_rfl
  refine ks_wpAt_super_base (env := envF F f s.heap.objs.size) (fd := PySem.W.fnX F.name F.qual F.params F.body F.scope F.cl dV kV doc pm an (.ref F.c) ct) Y.ks Y.kc (by decide) rfl (I.kIn _ _ lk) rfl hp rfl (I.kIn _ _ hcode) rfl hvs hfile Y.top ?_
  refine ks_loadName_global S.kind Y.ks (loadGlobal_builtin (env := envF F f s.heap.objs.size) (I.mod.glob.keeps I.bk) Y.mg (hb1.keeps I.bk) ((hb2 _ (by decide)).trans hboot) ⟨rfl, ?_⟩)
  refine wpAny_loadName_free S.kind Y.kc (show List.lookup ("__class__" : Str) F.cl = some cc by rw [hcl]; rfl) ⟨_, I.kIn _ _ hcc, rfl⟩ ?_
  have hself : (ps.zip us).reverse.lookup ar.arg = some (.ref a) := by
    have ndP : ps.Nodup := by
      have q := S.nd.sublist (List.take_sublist (ps.length + [("__class__" : Str)].length) N)
      rw [S.pre] at q
      exact (List.nodup_append.mp q).1
    cases r with
    | cons rx rr =>
      cases rx
      exact zip_look (i := 0) ndP (by rw [hps]; rfl) rfl
  refine wpAny_loadName_local S.kind hka hns hself ?_
  refine ks_wpAny_isType_cls hD1 hD2 ⟨rfl, ?_⟩
  refine ks_wpAny_call_super hD1 hD2 ho J.cls (fun c e => by
    have := J.no
    unfold notCls at this
    rw [e] at this
    exact Bool.noConfusion this) (looks_mroIn I.kIn Y.sub) (fun h2 e2 k2 => ?_)
  have I2 := I.kept (t' := s.toks + (ps.zip us).length) (h' := h2) k2
  obtain ⟨mA2, J2, _⟩ := ins_get I2.hok ea
  obtain ⟨oda2, J2, _⟩ := J2.look
  obtain ⟨cdC, hC⟩ := Y.clsC
  have hsu := Y.sup
  unfold ks_superIn at hsu
  rw [hC] at hsu
  obtain ⟨og, hg1, hg2⟩ : ∃ og, h2.get? g = some og ∧ og.cls = .type "function" := by
    have ht' : (K.lookup g).map (·.cls) = some (.type "function") := Y.gt
    cases z : K.lookup g with
    | none => rw [z] at ht'; cases ht'
    | some og => rw [z] at ht'; exact ⟨og, I2.kIn _ _ z, Option.some.inj ht'⟩
  refine ks_wpAny_getMethod_super e2 (looks_opaque I2.kIn Y.opq) (l₀ := cdC.mro) (fun A Q E s k q => wpAny_bind ((looks_clsIn I2.kIn hC) A _ E s k (wpAny_pure q))) rfl I2.kIn hsu hg1 hg2 (ks_ne I2.kIn J2 hC) (by decide) ?_
  have I3 := ClX.met_new (g := g) (C := a) I2
  refine ClX.callwith_cm I3 (ClX.base_none I2 (Nat.le_refl _)) Y.gf (thn (hta.run p3 _ _ _ H _ I3 hq) fun us2 s3 ⟨ws, H3, I4, rv, q2⟩ => ⟨⟨ClX.pin_at I4, I4.kIn⟩, ?_⟩) (hst _) (hpl _)
  have FR : FnR P w K mg base CX0 k g spg := fnR_of (X := ncx CX P w K mg base N F f A outer s H E) G bg
  refine thn (ClX.run_cm (E := E0) FR (hr.deeper _) pass0 I4 rv q2) fun u s4 hu => ?_
  obtain ⟨v, H4, I5, _, q5⟩ := hu
  exact tail _ _ I5 q5
end
end Sim

/-! askers: objects whose field `asks` holds a list that is changed; that list is a cell of the caller -/
namespace Sim
open PySem L2 Evl
section
variable {K : PySem.W.Frag} {C : Addr} {σ : L2.St} {G0 H0 G H G2 H2 W : Hp} {ls : List Addr} {cs : Cs} {l : Addr} {ta : TA} {te : TE} {X : XK} {α β κ ι : Type} {R : Rep α} {S : Rep β} {T : Rep α} {B : Rep κ} {A : AR ι} {D : Ends} {tz : TS} {ns : List Str}
/-- a call that may raise, and may change the list at ad i -/
def PXA (K : PySem.W.Frag) (A : AR ι) (ad : ι → Addr) (B : Rep κ) (T : Rep α) (f : ι → List κ → Option ((Xn ⊕ α) × List κ)) : Sp := fun vs H Q E => ∃ G i ys r ys', A.r G vs i ∧ Wd G H [(ad i, cL B ys)] ∧ f i ys = some (r, ys') ∧
  (∀ e, r = .inl e → ∀ d H2 G2, Fr G H G2 H2 [ad i] → Wd G2 H2 [(ad i, cL B ys')] → Xat G2 e d → E (.ref (He.ga K e.cls)) (some d) H2) ∧
  (∀ x, r = .inr x → ∀ v H2 G2, Fr G H G2 H2 [ad i] → Wd G2 H2 [(ad i, cL B ys')] → T.r G2 v x → Q v H2)
theorem c_pxa {ad : ι → Addr} {f : ι → List κ → Option ((Xn ⊕ α) × List κ)} {vs : List V} {j : Nat} {i : ι} {ys ys' : List κ} {r : Xn ⊕ α} {Q : VK} {E : XK} (w : Wo G0 H0 ls G H cs) (hc : cs[j]? = some (ad i, cL B ys)) (hv : A.r G vs i) (hz : f i ys = some (r, ys'))
    (kx : ∀ e, r = .inl e → ∀ d H2 G2, Wo G0 H0 ls G2 H2 (cs.set j (ad i, cL B ys')) → Ex G G2 → Xat G2 e d → E (.ref (He.ga K e.cls)) (some d) H2)
    (k : ∀ x, r = .inr x → ∀ v H2 G2, Wo G0 H0 ls G2 H2 (cs.set j (ad i, cL B ys')) → Ex G G2 → T.r G2 v x → Q v H2) : PXA K A ad B T f vs H Q E :=
  ⟨G, i, ys, r, ys', hv, w.sub1 hc, hz, fun e he d H2 G2 fr w2 xa => kx e he d H2 G2 (w.call1 hc fr w2) fr.gg xa, fun x hx v H2 G2 fr w2 rr => k x hx v H2 G2 (w.call1 hc fr w2) fr.gg rr⟩
/-- the making of such an object: the list is new -/
def PIA (C : Addr) (A : AR ι) (B : Rep κ) (ns : List Str) (fl : Addr → α → List Pd) (f : ι → Option α) : Sp := fun vs H Q _ => ∃ G x ws i o, vs = .ref x :: ws ∧ Wd G H [(x, cI C [] [])] ∧ A.r G ws i ∧ f i = some o ∧
  ∀ H2 G2 p, H p = none → Fr G H G2 H2 [x] → Wd G2 H2 [(p, cL B []), (x, cI C ns (fl p o))] → Q .non H2
/-- v = C(..) -/
theorem x_makeA {a : Nat} {fl : Addr → α → List Pd} {f : ι → Option α} {mi : Option ι} {z : α} (w : Wo G0 H0 ls G H cs) (ha : EA ta σ G H A mi) (hm : (mi >>= f) = some z)
    (k : ∀ v p H2 G2, H0 p = none → Wo G0 H0 ls G2 H2 ((p, cL B []) :: cs) → Ex G G2 → (rObj C ns (fl p)).r G2 v z → tz D (σ.set a (some v)) H2) : tSeq (tAsg (tMake C (PIA C A B ns fl f) [] X ta) (gName a)) tz D σ H := by
  obtain ⟨i, hi, hz⟩ := bindS hm
  refine ha i hi H w.ex (Ex.refl _) _ fun vs H1 G1 u1 r1 => ?_
  intro x dx nx ndx ne
  rw [List.append_nil]
  have w1 : Wd G1 (upd (upd H1 dx (.own x)) x (.ins C dx [])) [(x, cI C [] [])] := new_ins u1.gh nx ndx ne
  refine ⟨G1, x, vs, i, z, rfl, w1, r1, hz, fun H2 G2 p np fr w2 => ⟨rfl, ?_⟩⟩
  have px : p ≠ x := fun z => by rw [z, upd_same] at np; cases np
  have np1 : H1 p = none := by
    rw [upd_ne px] at np
    by_cases q : p = dx
    · rw [q]; exact ndx
    · rw [upd_ne q] at np; exact np
  obtain ⟨G3, k1, k2, k3, dx', fs, k4, k5⟩ := ob_freeze w2.tail
  have hh : Ex H1 H2 := fun a o h => by
    have na : a ≠ x := ne_of_none h nx
    have nd : a ≠ dx := ne_of_none h ndx
    exact fr.fr a o (by rw [upd_ne na, upd_ne nd]; exact h) fun z => na (List.mem_singleton.mp z)
  have up : Up G1 H1 G3 H2 := ⟨fr.gg.trans k1, k2, hh, fun a h1 h2 => by
    have na : a ≠ x := fun z => by subst z; exact h1 nx
    have nd : a ≠ dx := fun z => by subst z; exact h1 ndx
    exact k3 a na (fr.nw a (by rw [upd_ne na, upd_ne nd]; exact h1) h2)⟩
  have u := u1.trans up
  obtain ⟨h1, o, h2, h3⟩ := w2.head
  have w3 : Wd G3 H2 [(p, cL B [])] := ⟨k2, fun c hc => by
    rw [List.mem_singleton.mp hc]
    exact ⟨k3 p px h1, o, h2, (cL B []).mono k1 h3⟩, List.nodup_cons.mpr ⟨List.not_mem_nil, List.nodup_nil⟩⟩
  have npH : H p = none := by
    cases q : H p with
    | none => rfl
    | some o => rw [u1.hh p o q] at np1; cases np1
  have n0 : H0 p = none := by
    cases q : H0 p with
    | none => rfl
    | some o => exact absurd npH (w.f.st p (by rw [q]; simp))
  exact k (.ref x) p H2 G3 n0 (w.newC npH u w3) u.gg ⟨x, dx', fs, rfl, k4, k5⟩
/-- self.f = [], a new field that holds a new list -/
theorem x_fldL {i j : Nat} {f : Str} {m : Option (List κ)} {xs : List κ} {ps : List Pd} (w : Wo G0 H0 ls G H cs) (hc : cs[j]? = some (l, cI C ns ps)) (hi : σ[i]? = some (some (.ref l))) (h : EL te σ G H B m) (hm : m = some xs) (hC : Cls K C) (hn : NoAttr K C f) (hz : ns.length < 1000) (hf : ns.contains f = false)
    (k : ∀ p H2 G2, H0 p = none → Wo G0 H0 ls G2 H2 ((p, cL B xs) :: cs.set j (l, cI C (ns ++ [f]) (ps ++ [pd rA p]))) → Ex G G2 → tz D σ H2) : tSeq (sFld K (tVar i) te f) tz D σ H := by
  refine c_l (Q := fun y H1 => tVar i σ H1 fun x H2 => ∃ a C dx fs, x = .ref a ∧ H2 a = some (.ins C dx fs) ∧ Cls K C ∧ NoAttr K C f ∧ fs.length < 1000 ∧ tz D σ (upd H2 a (.ins C dx (putF f y fs)))) w h hm fun p H2 G2 n0 w2 e => ?_
  obtain ⟨_, o3, k2, dx, fs, rfl, k3⟩ := w2.w.getAt (i := j + 1) hc
  refine ⟨.ref l, hi, l, C, dx, fs, rfl, k2, hC, hn, by rw [← List.length_map (f := (·.1)), k3.1]; exact hz, ?_⟩
  rw [putF_new (by rw [k3.1]; exact hf)]
  refine k p _ _ n0 (w2.writeAt (i := j + 1) hc ⟨dx, _, rfl, ?_, ?_⟩) e
  · rw [List.map_append, k3.1]; rfl
  · rw [List.map_append]; exact pr_app k3.2 (.cons rfl .nil)
/-- o.f of such an object: the list's address -/
theorem e_fldA {m : Option α} {f : Str} {fl : α → List Pd} {p : Addr} (n : Nat) (h : E te σ G W (rObj C ns fl) m) (hC : Cls K C) (hn : NoAttr K C f) (hi : ns.findIdx? (fun x => x == f) = some n) (hp : ∀ x, (fl x)[n]? = some (pd rA p)) : E (tFld K te f) σ G W rA (m >>= fun _ => some p) :=
  e_fld n (fun _ => p) h hC hn hi hp
end
end Sim

/-! the hook with an __init__ that calls super().__init__ of an own class -/
namespace Sim
section
open PySem PySem.Spec PyProof.Rows L2 PySem.W PySem.Calls NdefX
/-- an __init__ that calls super().__init__ of an own class: written in cls, of instances of inst, the other one in base -/
structure SpD where
  cls : Str
  inst : Str
  base : Str
  qual : Str
  params : Arguments
  body : List Stmt
  scope : Scope
  dfl : List He.Dv := []
def SpD.x (d : SpD) : XcD := ⟨d.cls, d.qual, d.params, d.body, d.scope⟩
def SpD.val (d : SpD) : FnY := d.x.val
def SpD.fdB (K : Frag) (file : Str) (d : SpD) : Bool := match K.lookup (xcAd K d.cls) with
  | some ⟨_, _, .func fd, _⟩ => (match fd.closure with
    | [(_, cc)] => (match K.lookup cc with
      | some ⟨_, _, .cell (some (.ref D)), _⟩ => D == He.ga K d.cls
      | _ => false)
    | _ => false) && (match fd.code with
    | .ref cda => codeIn K (.ref cda) d.qual && (match K.lookup cda with
      | some ⟨_, _, .fields vs, _⟩ => (match (vs[2]? : Option Value) with
        | some (.str fl _) => fl == file
        | _ => false)
      | _ => false)
    | _ => false) && (decide (fd.name = ("__init__" : Str)) && He.dflB K fd.defaults (d.dfl.map (He.Dv.v K)))
  | _ => false
def SpD.ok (K : Frag) (file : Str) (d : SpD) : Bool := d.fdB K file && ((clsIn K (He.ga K d.inst)).isSome && ((clsIn K (He.ga K d.cls)).isSome && (decide (mroIn K (He.ga K d.inst) (.ref (He.ga K d.cls)) = some true) &&
  (decide (nsIn K cStatics "thirdparty.any" = some none) && (decide (ks_superIn K (He.ga K d.inst) (He.ga K d.cls) "__init__" = some (some (.ref (xcAd K d.base)))) && (decide (typeIn K (.ref (xcAd K d.base)) = some (.type "function")) &&
  (fnIn K (xcAd K d.base) && decide (xcAd K d.inst = xcAd K d.cls))))))))
theorem SpD.known {P : Program} {K : Frag} {mg : Str → Option Value} {d : SpD} (e : fnY K d.cls = d.val) (c : d.ok K P.main.file = true) (hmg : mg "super" = none) (htop : (P.main.scope.names.lookup ("super" : Str)).isSome = false)
    (hks : d.scope.names.lookup ("super" : Str) = some .globalImplicit) (hkc : d.scope.names.lookup ("__class__" : Str) = some .free) {ar : Arg} {ars : List Arg} (hpa : d.params.posonlyargs ++ d.params.args = ar :: ars) (hka : d.scope.names.lookup ar.arg = some .local) :
    ∃ fd cc c, SupP P K mg (He.ga K d.cls) (He.ga K d.inst) (xcAd K d.cls) (xcAd K d.base) fd ⟨"__init__", d.qual, d.params, d.body, d.scope, [("__class__", cc)], c⟩ ((d.params.posonlyargs ++ d.params.args).map (·.arg)) (d.dfl.map (He.Dv.v K)) := by
  unfold SpD.ok at c
  obtain ⟨c0, c⟩ := He.ba c
  obtain ⟨c1, c⟩ := He.ba c
  obtain ⟨c2, c⟩ := He.ba c
  obtain ⟨c3, c⟩ := He.ba c
  obtain ⟨c4, c⟩ := He.ba c
  obtain ⟨c5, c⟩ := He.ba c
  obtain ⟨c6, c⟩ := He.ba c
  obtain ⟨c7, c8⟩ := He.ba c
  unfold SpD.fdB at c0
  unfold fnY at e
  cases q : K.lookup (xcAd K d.cls) with
  | none => rw [q] at c0; cases c0
  | some o =>
    obtain ⟨oc, od, dt, osl⟩ := o
    rw [q] at c0 e
    cases dt with
    | func fd =>
      obtain ⟨n1, n2, n3, n4, n5, n6, n7, n8, n9, n10, n11, n12, n13, n14, n15⟩ := fd
      have e2 : (some (n2, n3, n4, n5, n6, n7.map (·.1), n15) : FnY) = (some (d.qual, d.params, .stmts d.body, d.scope, mainGlobals, ["__class__"], builtinsNs) : FnY) := e
      simp only [Option.some.injEq, Prod.mk.injEq] at e2
      obtain ⟨h2, h3, h4, h5, h6, h7, h8⟩ := e2
      subst h2 h3 h4 h5 h6 h8
      dsimp only at c0
      obtain ⟨kab, kc⟩ := He.ba c0
      obtain ⟨kA, kB⟩ := He.ba kab
      obtain ⟨kc, kd⟩ := He.ba kc
      have kc := of_decide_eq_true kc
      subst kc
      clear kab c0
      have kd := He.dflB_ok kd
      cases n7 with
      | nil => cases h7
      | cons p r =>
        cases r with
        | cons _ _ => simp at h7
        | nil =>
          obtain ⟨nm, cc⟩ := p
          have hn : nm = ("__class__" : Str) := by
            simp only [List.map_cons, List.map_nil, List.cons.injEq, and_true] at h7
            exact h7
          subst hn
          dsimp only at kA
          cases n13 with
          | ref cda =>
            dsimp only at kB
            obtain ⟨k4, k5⟩ := He.ba kB
            cases qc : K.lookup cc with
            | none => rw [qc] at kA; cases kA
            | some oc2 =>
              obtain ⟨a1, a2, a3, a4⟩ := oc2
              rw [qc] at kA
              cases a3 with
              | cell v =>
                cases v with
                | none => cases kA
                | some v =>
                  cases v with
                  | ref D =>
                    have hD : D = He.ga K d.cls := eq_of_beq kA
                    subst hD
                    cases qd : K.lookup cda with
                    | none => rw [qd] at k5; cases k5
                    | some od2 =>
                      obtain ⟨b1, b2, b3, b4⟩ := od2
                      rw [qd] at k5
                      cases b3 with
                      | fields vs =>
                        dsimp only at k5
                        cases qv : vs[2]? with
                        | none => rw [qv] at k5; cases k5
                        | some v2 =>
                          rw [qv] at k5
                          cases v2 with
                          | str fl tf =>
                            have hfl : fl = P.main.file := eq_of_beq k5
                            subst hfl
                            obtain ⟨cdD, hcd⟩ := Option.isSome_iff_exists.mp c2
                            exact ⟨_, cc, cda, ⟨oc, od, osl, n8, n9, n10, n11, n12, n14, rfl, q, kd⟩, k4, ⟨cc, a1, a2, a4, rfl, qc⟩, ⟨ar, ars.map (·.arg), by rw [hpa]; rfl, by rw [hpa]; rfl, hka⟩, ⟨b1, b2, vs, b4, P.main.file, tf, qd, qv, by simp⟩, ⟨cdD, hcd⟩, Option.isSome_iff_exists.mp c1,
                              of_decide_eq_true c3, hks, hkc, hmg, htop, of_decide_eq_true c4, of_decide_eq_true c5, of_decide_eq_true c6, c7⟩
                          | _ => cases k5
                      | _ => cases k5
                  | _ => cases kA
              | _ => cases kA
          | _ => cases kB
    | _ => cases c0
end
open PySem PySem.Spec PyProof.Rows L2 Evl
abbrev AlZ : Type := AlX × Bool × List FnY
def obsZ (fa : List He.Fa) (fn : List He.DefD) (ex : List (PySem.W.Frag → Bool)) (xs : List XcD) (gs : List GeD) (sp : List SpD) (file : Str) (K : PySem.W.Frag) : AlZ := (obsX fa fn ex xs gs file K, sp.all fun d => d.ok K file, sp.map fun d => fnY K d.cls)
def obsZG (n : Nat) (fa : List He.Fa) (fn : List He.DefD) (ex : List (PySem.W.Frag → Bool)) (xs : List XcD) (gs : List GeD) (sp : List SpD) (file : Str) (g : Addr → Option Obj) : AlZ := obsZ fa fn ex xs gs sp file (He.frG g (cStatics :: He.asD g n))
structure SaysZ (fa : List He.Fa) (fn : List He.DefD) (ex : List (PySem.W.Frag → Bool)) (xs : List XcD) (gs : List GeD) (sp : List SpD) (file : Str) (K : PySem.W.Frag) : Prop where
  s : SaysX fa fn ex xs gs file K
  o : (sp.all fun d => d.ok K file) = true
  v : (sp.map fun d => fnY K d.cls) = sp.map SpD.val
def hookZ (n : Nat) (fa : List He.Fa) (fn : List He.DefD) (ex : List (PySem.W.Frag → Bool)) (xs : List XcD) (gs : List GeD) (sp : List SpD) (file : Str) : PySem.W.Hook where
  α := AlZ
  obs := fun s => obsZG n fa fn ex xs gs sp file s.heap.get?
  val := fun _ => ((He.valD fn, true, xs.map XcD.val, gs.map GeD.val), true, sp.map SpD.val)
  says := fun _ h => ∃ K : PySem.W.Frag, K.In h ∧ SaysZ fa fn ex xs gs sp file K
  of := fun _ _ e => ⟨_, He.frG_in, ⟨congrArg (fun z : AlZ => z.1.1) e, congrArg (fun z : AlZ => z.1.2.1) e, congrArg (fun z : AlZ => z.1.2.2.1) e, congrArg (fun z : AlZ => z.1.2.2.2) e⟩, congrArg (fun z : AlZ => z.2.1) e, congrArg (fun z : AlZ => z.2.2) e⟩
  keeps := fun _ _ _ ⟨K, hK, c⟩ k => ⟨K, PySem.W.Frag.In.keeps hK k, c⟩
theorem obsZG_eq {n : Nat} {fa : List He.Fa} {fn : List He.DefD} {ex : List (PySem.W.Frag → Bool)} {xs : List XcD} {gs : List GeD} {sp : List SpD} {file : Str} {g : Addr → Option Obj} {s : Shared} (h : ∀ a, g a = s.heap.get? a) : obsZG n fa fn ex xs gs sp file g = (hookZ n fa fn ex xs gs sp file).obs s := by
  have e : g = s.heap.get? := funext h
  rw [e] <;> rfl
structure TxZ (fa : List He.Fa) (fn : List He.DefD) (es : List (PySem.W.Frag → Bool)) (xs : List XcD) (gs : List GeD) (sp : List SpD) (file : Str) (K : PySem.W.Frag) (mg : Str → Option Value) : Prop extends TxX fa fn es xs gs file K mg where
  so : (sp.all fun d => d.ok K file) = true
  sv : (sp.map fun d => fnY K d.cls) = sp.map SpD.val
section
variable {fa : List He.Fa} {fn : List He.DefD} {es : List (PySem.W.Frag → Bool)} {xs : List XcD} {gs : List GeD} {sp : List SpD} {file : Str} {K : PySem.W.Frag} {mg : Str → Option Value}
theorem TxZ.mk' {h : Heap} (KX : K.In h) (G : h.Ns mainGlobals mg) (c : SaysZ fa fn es xs gs sp file K) : TxZ fa fn es xs gs sp file K mg := ⟨TxX.mk' KX G c.s, c.o, c.v⟩
theorem TxZ.spd (T : TxZ fa fn es xs gs sp file K mg) (i : Nat) {d : SpD} (h : sp[i]? = some d) : fnY K d.cls = d.val ∧ d.ok K file = true := by
  have e2 : (sp.map fun d => fnY K d.cls)[i]? = (sp.map SpD.val)[i]? := by rw [T.sv]
  rw [List.getElem?_map, List.getElem?_map, h] at e2
  exact ⟨Option.some.inj e2, List.all_eq_true.mp T.so d (List.mem_of_getElem? h)⟩
end
end Sim

/-! askers: calls that read the lent list and may raise; loops over a lent list that an expression gives -/
namespace Sim
open PySem L2 Evl
section
variable {K : PySem.W.Frag} {C : Addr} {σ : L2.St} {G0 H0 G H G2 H2 W : Hp} {ls : List Addr} {cs : Cs} {l : Addr} {ta : TA} {X : XK} {te to tl : TE} {α β κ ι γ : Type} {R : Rep α} {S : Rep β} {T : Rep γ} {B : Rep κ} {A : AR ι} {D : Ends} {tz tu : TS} {g : TG} {ns : List Str} {fl : α → List Pd}
/-- reads the list at ad i, may raise -/
def PXB (K : PySem.W.Frag) (A : AR ι) (ad : ι → Addr) (B : Rep κ) (T : Rep γ) (f : List κ → ι → Option (Xn ⊕ γ)) : Sp := fun vs H Q E => ∃ G i ys r, Ex G H ∧ A.r G vs i ∧ Lent G H (ad i) B ys ∧ f ys i = some r ∧
  (∀ e, r = .inl e → ∀ d H2 G2, Up G H G2 H2 → Xat G2 e d → E (.ref (He.ga K e.cls)) (some d) H2) ∧ (∀ x, r = .inr x → ∀ v H2 G2, Up G H G2 H2 → T.r G2 v x → Q v H2)
/-- o.m(..) of such a def -/
theorem ex_methB {m : Option α} {mi : Option ι} {me : Str} {ad : α × ι → Addr} {f : List κ → α × ι → Option (Xn ⊕ γ)} {ys : List κ} {Wx : L2.St → XK} (h : E to σ G W (rObj C ns fl) m) (ha : EA ta σ G W A mi) (L : Lent G W l B ys) (hl : ∀ o i, m = some o → mi = some i → ad (o, i) = l) (hi : ns.contains me = false) :
    EX K (tMethT C me (PXB K (aC (rObj C ns fl) A) ad B T f) Wx to ta) σ G W T (m >>= fun o => mi >>= fun i => f ys (o, i)) (Wx σ) := fun z hz H e e' Q qx q => by
  obtain ⟨x, hx, hz⟩ := bindS hz
  obtain ⟨y, hy, hz⟩ := bindS hz
  refine h x hx H e e' _ fun v H1 G1 u r => ?_
  obtain ⟨a, dx, fs, rfl, h2, h3⟩ := r
  refine ⟨a, dx, fs, rfl, u.gh a _ h2, look_no h3.1 hi, ?_⟩
  refine (ha.mono u.gg (e'.trans u.hh)) y hy H1 u.gh (Ex.refl _) _ fun vs H3 G3 u3 r3 => ?_
  have := hl x y hx hy
  subst this
  exact ⟨G3, (x, y), ys, z, u3.gh, ⟨.ref a, vs, rfl, ⟨a, dx, fs, rfl, u3.gg a _ h2, h3.mono u3.gg⟩, r3⟩, (L.up e' u).up (Ex.refl _) u3, hz, fun x hx d H4 G4 u4 r4 => qx x hx d H4 G4 ((u.trans u3).trans u4) r4, fun x hx v H4 G4 u4 r4 => q x hx v H4 G4 ((u.trans u3).trans u4) r4⟩
/-- for .. in o.f, the list there lent -/
theorem x_forNE {xs : List α} {R : Rep α} (w : Wo G0 H0 [] G H []) (L : Lent G0 H0 l R xs) (he : E tl σ G H rA (some l)) (P : Nat → Hp → Hp → L2.St → Prop) (hP : ∀ i G' H' σ', P i G' H' σ' → Wo G0 H0 [] G' H' [])
    (h0 : ∀ G' H', Wo G0 H0 [] G' H' [] → Ex G G' → P 0 G' H' σ)
    (hs : ∀ i x v σ' G' H', xs[i]? = some x → P i G' H' σ' → R.r G' v x → g v σ' H' fun σ2 H2 => tu { D with nx := fun σ' H' => ∃ G', P (i + 1) G' H' σ', ct := fun σ' H' => ∃ G', P (i + 1) G' H' σ', bk := tz D } σ2 H2)
    (hd : ∀ σ' G' H', P xs.length G' H' σ' → tz D σ' H') : tSeq (tFor (iList K tl) g tu) tz D σ H := by
  obtain ⟨vs, h2, h3⟩ := L.at_
  refine he l rfl H w.ex (Ex.refl _) _ fun v H1 G1 u r => ?_
  cases r
  have w1 := w.up u
  refine ⟨l, rfl, ⟨vs, Or.inl (Or.inl (w1.f.fr _ _ h2 List.not_mem_nil))⟩, for_list (K := K) (a := l) (xs := vs) (D := { D with nx := tz D }) (fun i σ' H' => ∃ G', P i G' H' σ') ⟨G1, h0 G1 H1 w1 u.gg⟩ ?_ ?_ ?_⟩
  · rintro i σ' H' _ ⟨G', p⟩
    exact Or.inl (Or.inl ((hP _ _ _ _ p).f.fr _ _ h2 List.not_mem_nil))
  · rintro i y σ' H' hy ⟨G', p⟩
    obtain ⟨x, hx, r⟩ := pr_get' h3 hy
    exact hs i x y σ' G' H' hx p (R.mono (hP _ _ _ _ p).f.gg r)
  · rintro σ' H' ⟨G', p⟩
    rw [h3.length] at p
    exact hd σ' G' H' p
/-- the lent list as a cell of the def's own -/
theorem Wo.own1 {ys : List κ} (w : Wo G0 H0 [] G H []) (L : Lent G0 H0 l B ys) : Wo G0 H0 [l] G H [(l, cL B ys)] := by
  have L1 := w.lentOf L List.not_mem_nil
  obtain ⟨vs, h2, h3⟩ := L1.at_
  refine ⟨⟨w.ex, fun c hc => ?_, List.nodup_cons.mpr ⟨List.not_mem_nil, List.nodup_nil⟩⟩, ⟨w.f.gg, fun a o h _ => w.f.fr a o h List.not_mem_nil, w.f.nw, w.f.st⟩, fun c hc => ?_⟩
  · rw [List.mem_singleton.mp hc]
    exact ⟨L1.n, _, h2, vs, rfl, h3⟩
  · rw [List.mem_singleton.mp hc]
    exact .inl (List.mem_singleton.mpr rfl)
/-- e.append(..), e an expression that gives the list's place -/
theorem x_appE {j : Nat} {m : Option α} {x : α} {xs : List α} {R : Rep α} (w : Wo G0 H0 ls G H cs) (hc : cs[j]? = some (l, cL R xs)) (hs : sz xs.length = true) (ho : E to σ G H rA (some l)) (h : E te σ G H R m) (hm : m = some x)
    (k : ∀ H2 G2, Wo G0 H0 ls G2 H2 (cs.set j (l, cL R (xs ++ [x]))) → Ex G G2 → tz D σ H2) : tSeq (tDrop (tBM K "list" rAppend to (tCons te tNil))) tz D σ H := by
  refine ho l rfl H w.ex (Ex.refl _) _ fun v H1 G1 u r => ?_
  cases r
  have w1 := w.up u
  obtain ⟨_, o, h2, vs, rfl, h3⟩ := w1.w.getAt hc
  refine ⟨.inl ⟨rfl, vs, Or.inl (Or.inl h2)⟩, c_e (Q := fun x H1 => rAppend (.ref l) [x] H1 fun _ H3 => tz D σ H3) w1 (h.mono u.gg u.hh) hm fun v H3 G3 w3 e r => ?_⟩
  obtain ⟨_, o3, k2, vs3, rfl, k3⟩ := w3.w.getAt hc
  refine ⟨l, vs3, v, rfl, rfl, k2, by rw [k3.length]; exact sz_l hs, k _ _ (w3.writeAt hc ⟨vs3 ++ [v], rfl, pr_app k3 (.cons r .nil)⟩) (u.gg.trans e)⟩
/-- the lent list read at the heap itself -/
theorem e_lentA {ys : List κ} (h : E te σ G W rA (some l)) (L : Lent G W l B ys) (e0 : Ex G W) : E te σ W W (rL B) (some ys) := fun z hz H e e' Q q => by
  cases hz
  refine h l rfl H (e0.trans e) e' _ fun v H2 G2 u r => ?_
  cases r
  exact q _ H2 W (Up.same e u.hh) (L.rl e0)
/-- the making of such an object, one argument a lent list -/
def PIAL (C : Addr) (A : AR ι) (ad : ι → Addr) (B0 : Rep β) (B : Rep κ) (ns : List Str) (fl : Addr → α → List Pd) (f : List β → ι → Option α) : Sp := fun vs H Q _ => ∃ G x ws i ys o, vs = .ref x :: ws ∧ Wd G H [(x, cI C [] [])] ∧ A.r G ws i ∧ Lent G H (ad i) B0 ys ∧ f ys i = some o ∧
  ∀ H2 G2 p, H p = none → Fr G H G2 H2 [x] → Wd G2 H2 [(p, cL B []), (x, cI C ns (fl p o))] → Q .non H2
/-- v = C(..), one argument a lent list -/
theorem x_makeAL {a : Nat} {B0 : Rep β} {ad : ι → Addr} {fl : Addr → α → List Pd} {f : List β → ι → Option α} {mi : Option ι} {i : ι} {ys : List β} {z : α} (w : Wo G0 H0 ls G H cs) (ha : EA ta σ G H A mi) (hi : mi = some i) (L : Lent G H l B0 ys) (hl : ad i = l) (hz : f ys i = some z)
    (k : ∀ v p H2 G2, H0 p = none → Wo G0 H0 ls G2 H2 ((p, cL B []) :: cs) → Ex G G2 → (rObj C ns (fl p)).r G2 v z → tz D (σ.set a (some v)) H2) : tSeq (tAsg (tMake C (PIAL C A ad B0 B ns fl f) [] X ta) (gName a)) tz D σ H := by
  subst hl
  refine ha i hi H w.ex (Ex.refl _) _ fun vs H1 G1 u1 r1 => ?_
  intro x dx nx ndx ne
  rw [List.append_nil]
  have w1 : Wd G1 (upd (upd H1 dx (.own x)) x (.ins C dx [])) [(x, cI C [] [])] := new_ins u1.gh nx ndx ne
  have L1 := L.up (Ex.refl _) u1
  have L2 : Lent G1 (upd (upd H1 dx (.own x)) x (.ins C dx [])) (ad i) B0 ys := by
    obtain ⟨vs', h2, h3⟩ := L1.at_
    exact ⟨L1.n, vs', by rw [upd_ne (ne_of_none h2 nx), upd_ne (ne_of_none h2 ndx)]; exact h2, h3⟩
  refine ⟨G1, x, vs, i, ys, z, rfl, w1, r1, L2, hz, fun H2 G2 p np fr w2 => ⟨rfl, ?_⟩⟩
  have px : p ≠ x := fun z => by rw [z, upd_same] at np; cases np
  have np1 : H1 p = none := by
    rw [upd_ne px] at np
    by_cases q : p = dx
    · rw [q]; exact ndx
    · rw [upd_ne q] at np; exact np
  obtain ⟨G3, k1, k2, k3, dx', fs, k4, k5⟩ := ob_freeze w2.tail
  have hh : Ex H1 H2 := fun a o h => by
    have na : a ≠ x := ne_of_none h nx
    have nd : a ≠ dx := ne_of_none h ndx
    exact fr.fr a o (by rw [upd_ne na, upd_ne nd]; exact h) fun z => na (List.mem_singleton.mp z)
  have up : Up G1 H1 G3 H2 := ⟨fr.gg.trans k1, k2, hh, fun a h1 h2 => by
    have na : a ≠ x := fun z => by subst z; exact h1 nx
    have nd : a ≠ dx := fun z => by subst z; exact h1 ndx
    exact k3 a na (fr.nw a (by rw [upd_ne na, upd_ne nd]; exact h1) h2)⟩
  have u := u1.trans up
  obtain ⟨h1, o, h2, h3⟩ := w2.head
  have w3 : Wd G3 H2 [(p, cL B [])] := ⟨k2, fun c hc => by
    rw [List.mem_singleton.mp hc]
    exact ⟨k3 p px h1, o, h2, (cL B []).mono k1 h3⟩, List.nodup_cons.mpr ⟨List.not_mem_nil, List.nodup_nil⟩⟩
  have npH : H p = none := by
    cases q : H p with
    | none => rfl
    | some o => rw [u1.hh p o q] at np1; cases np1
  have n0 : H0 p = none := by
    cases q : H0 p with
    | none => rfl
    | some o => exact absurd npH (w.f.st p (by rw [q]; simp))
  exact k (.ref x) p H2 G3 n0 (w.newC npH u w3) u.gg ⟨x, dx', fs, rfl, k4, k5⟩
/-! ### tests, opened -/
theorem o_or {t u : TT} {Q : Bool → Hp → Prop} (h : t σ H fun b H1 => if b = true then Q true H1 else u σ H1 Q) : tOr t u σ H Q := h
theorem o_tt {P Q : Prop} (h : P) : if true = true then P else Q := by rw [if_pos rfl]; exact h
theorem o_ff {P Q : Prop} (h : Q) : if false = true then P else Q := by rw [if_neg (by decide)]; exact h
end
end Sim

/-! askers handed to defs; parts of mixed data -/
namespace Sim
open PySem L2 Evl
section
variable {K : PySem.W.Frag} {C : Addr} {σ : L2.St} {G0 H0 G H G2 H2 W : Hp} {ls : List Addr} {cs : Cs} {l : Addr} {ta : TA} {X : XK} {te to tl : TE} {α β κ ι γ : Type} {R : Rep α} {S : Rep β} {T : Rep γ} {B : Rep κ} {A : AR ι} {D : Ends} {tz tu : TS}
/-- a call that may change the list at ad i -/
def PQ (A : AR ι) (ad : ι → Addr) (B : Rep κ) (T : Rep γ) (f : ι → List κ → Option (γ × List κ)) : Sp := fun vs H Q _ => ∃ G i ys x ys', A.r G vs i ∧ Wd G H [(ad i, cL B ys)] ∧ f i ys = some (x, ys') ∧
  ∀ v H2 G2, Fr G H G2 H2 [ad i] → Wd G2 H2 [(ad i, cL B ys')] → T.r G2 v x → Q v H2
theorem c_pq {ad : ι → Addr} {f : ι → List κ → Option (γ × List κ)} {vs : List V} {j : Nat} {i : ι} {ys ys' : List κ} {x : γ} {Q : VK} {E : XK} (w : Wo G0 H0 ls G H cs) (hc : cs[j]? = some (ad i, cL B ys)) (hv : A.r G vs i) (hz : f i ys = some (x, ys'))
    (k : ∀ v H2 G2, Wo G0 H0 ls G2 H2 (cs.set j (ad i, cL B ys')) → Ex G G2 → T.r G2 v x → Q v H2) : PQ A ad B T f vs H Q E :=
  ⟨G, i, ys, x, ys', hv, w.sub1 hc, hz, fun v H2 G2 fr w2 rr => k v H2 G2 (w.call1 hc fr w2) fr.gg rr⟩
/-- an object's list, read at the heap itself -/
theorem e_cellA {j : Nat} {ys : List κ} (w : Wo G0 H0 ls G H cs) (hc : cs[j]? = some (l, cL B ys)) (h : E te σ G H rA (some l)) : E te σ H H (rL B) (some ys) := e_lentA h (w.lent hc) w.ex
/-! mixed data -/
def ixD : PyData → Nat → Option PyData
  | .tuple ds, k => ds[k]?
  | _, _ => none
def intD : PyData → Option Int
  | .int i => some i
  | _ => none
theorem pl_get : ∀ {ds : List PyData} {k : Nat} {d : PyData}, PyData.plainAll ds = true → ds[k]? = some d → d.plain = true ∧ d.depth ≤ PyData.depthAll ds
  | [], k, d, _, h => by simp at h
  | x :: xs, 0, d, h, e => by
    have e : x = d := by simpa using e
    subst e
    have h := (Bool.and_eq_true_iff.mp h).1
    refine ⟨h, ?_⟩
    simp only [PyData.depthAll]
    omega
  | x :: xs, k + 1, d, h, e => by
    have e : xs[k]? = some d := by simpa using e
    obtain ⟨h1, h2⟩ := pl_get (Bool.and_eq_true_iff.mp h).2 e
    refine ⟨h1, ?_⟩
    simp only [PyData.depthAll]
    omega
theorem dp_get {H : Hp} {vs : List V} {ds : List PyData} (h : DpAll K H vs ds) : ∀ {k : Nat} {d : PyData}, ds[k]? = some d → ∃ v, vs[k]? = some v ∧ Dp K H v d := by
  induction ds generalizing vs with
  | nil => intro k d e; simp at e
  | cons x ds ih =>
    intro k d e
    cases h with
    | cons h t =>
      cases k with
      | zero =>
        have e : x = d := by simpa using e
        subst e
        exact ⟨_, rfl, h⟩
      | succ k =>
        obtain ⟨w, h1, h2⟩ := ih t (k := k) (by simpa using e)
        exact ⟨w, by simpa using h1, h2⟩
theorem e_ixD (k : Nat) (hk : k < 100) {m : Option PyData} (h : E te σ G W (rD K) m) : E (tOp (rIxT K) te (tC (.int (k : Int)))) σ G W (rD K) (m >>= fun d => ixD d k) := fun z hz H e e' Q q => by
  obtain ⟨d, hd, hz⟩ := bindS hz
  refine h d hd H e e' _ fun v H1 G1 u r => ?_
  obtain ⟨h1, h2, h3⟩ := r
  cases h1 with
  | tup hq ha =>
    rename_i a xs ds
    obtain ⟨w, hw, hw2⟩ := dp_get ha (show ds[k]? = some z from hz)
    obtain ⟨p1, p2⟩ := pl_get (show PyData.plainAll ds = true from h2) (show ds[k]? = some z from hz)
    have hq' : SqT K H1 a xs := ex_t u.gh hq
    refine ⟨a, xs, k, w, rfl, rfl, hq', ?_, q w H1 G1 u ⟨hw2, p1, ?_⟩⟩
    · have hl : k < xs.length := (List.getElem?_eq_some_iff.mp hw).1
      show (ixN xs.length (k : Int)).bind (fun j => xs[j]?) = some w
      rw [show ixN xs.length (k : Int) = some k by
        unfold ixN
        simp; omega]
      exact hw
    · have : (PyData.tuple ds).depth = PyData.depthAll ds + 1 := by simp only [PyData.depth]
      omega
  | _ => cases hz
theorem e_intD {m : Option PyData} (h : E te σ G W (rD K) m) : E te σ G W rI (m >>= fun d => intD d) := fun z hz H e e' Q q => by
  obtain ⟨d, hd, hz⟩ := bindS hz
  refine h d hd H e e' _ fun v H1 G1 u r => ?_
  obtain ⟨h1, _, _⟩ := r
  cases h1 with
  | int i =>
    cases hz
    exact q _ H1 G1 u rfl
  | _ => cases hz
end
/-- facts of the text: one def under two classes; a def's record is a function's -/
def eqmB (C D m : Str) (K : PySem.W.Frag) : Bool := decide (He.ma K (He.ga K C) m = He.ma K (He.ga K D) m)
theorem eqm_ok {C D m : Str} {K : PySem.W.Frag} (h : eqmB C D m K = true) : He.ma K (He.ga K C) m = He.ma K (He.ga K D) m := of_decide_eq_true h
def fnmB (C m : Str) (K : PySem.W.Frag) : Bool := PySem.W.fnIn K (He.ma K (He.ga K C) m)
theorem fnm_ok {C m : Str} {K : PySem.W.Frag} (h : fnmB C m K = true) : PySem.W.fnIn K (He.ma K (He.ga K C) m) = true := h
theorem held_if {CX : CXT} {P : Program} {w : World} {K : PySem.W.Frag} {mg : Str → Option Value} {base : Heap} {k : Nat} {C0 : Addr} {sp0 : Sp} (h0 : HeldO P w K mg base CX k C0 sp0) : ∀ C sp, (if C = C0 then some sp0 else none) = some sp → HeldO P w K mg base CX k C sp := fun C sp h => by
  by_cases q : C = C0
  · rw [if_pos q] at h
    cases h
    subst q
    exact h0
  · rw [if_neg q] at h
    cases h
end Sim

/-! a field written again -/
namespace Sim
open PySem L2 Evl
theorem putF_at {f : Str} {v : V} : ∀ {fs : List (Str × V)} {n : Nat}, (fs.map (·.1)).findIdx? (fun x => x == f) = some n → (putF f v fs).map (·.1) = fs.map (·.1) ∧ (putF f v fs).map (·.2) = (fs.map (·.2)).set n v
  | [], n, h => by simp at h
  | (g, x) :: r, n, h => by
    rw [List.map_cons, List.findIdx?_cons] at h
    by_cases e : g = f
    · have hb : (g == f) = true := by rw [e]; simp
      rw [if_pos hb] at h
      cases h
      unfold putF
      rw [if_pos e]
      exact ⟨rfl, rfl⟩
    · have hb : ¬ ((g == f) = true) := by simpa using e
      rw [if_neg hb] at h
      obtain ⟨m, hm, rfl⟩ := Option.map_eq_some_iff.mp h
      obtain ⟨h1, h2⟩ := putF_at (v := v) hm
      unfold putF
      rw [if_neg e, List.map_cons, List.map_cons, List.map_cons, List.map_cons, h1, h2]
      exact ⟨rfl, rfl⟩
theorem pr_setP {P : V → Pd → Prop} {v : V} {x : Pd} (h : P v x) : ∀ {vs : List V} {xs : List Pd} {n : Nat}, Paired P vs xs → Paired P (vs.set n v) (xs.set n x)
  | _, _, _, .nil => .nil
  | _, _, 0, .cons _ t => .cons h t
  | _, _, n + 1, .cons h' t => .cons h' (pr_setP h t)
section
variable {K : PySem.W.Frag} {C : Addr} {σ : L2.St} {G0 H0 G H : Hp} {ls : List Addr} {cs : Cs} {l : Addr} {te : TE} {β : Type} {S : Rep β} {D : Ends} {tz : TS} {ns : List Str}
/-- self.f = e, f there already -/
theorem x_fldU {i j n : Nat} {f : Str} {m : Option β} {x : β} {ps : List Pd} (w : Wo G0 H0 ls G H cs) (hc : cs[j]? = some (l, cI C ns ps)) (hi : σ[i]? = some (some (.ref l))) (h : E te σ G H S m) (hm : m = some x) (hC : Cls K C) (hn : NoAttr K C f) (hf : ns.findIdx? (fun x => x == f) = some n) (hs : ns.length < 1000)
    (k : ∀ H2 G2, Wo G0 H0 ls G2 H2 (cs.set j (l, cI C ns (ps.set n (pd S x)))) → Ex G G2 → tz D σ H2) : tSeq (sFld K (tVar i) te f) tz D σ H :=
  h x hm H w.ex (Ex.refl _) (fun y H1 => tVar i σ H1 fun x H2 => ∃ a C dx fs, x = .ref a ∧ H2 a = some (.ins C dx fs) ∧ Cls K C ∧ NoAttr K C f ∧ fs.length < 1000 ∧ tz D σ (upd H2 a (.ins C dx (putF f y fs)))) fun v H3 G3 u r => by
    have w3 := w.up u
    obtain ⟨_, o3, k2, dx, fs, rfl, k3⟩ := w3.w.getAt hc
    refine ⟨.ref l, hi, l, C, dx, fs, rfl, k2, hC, hn, by rw [← List.length_map (f := (·.1)), k3.1]; exact hs, ?_⟩
    obtain ⟨q1, q2⟩ := putF_at (f := f) (v := v) (fs := fs) (n := n) (by rw [k3.1]; exact hf)
    refine k _ _ (w3.writeAt hc ⟨dx, _, rfl, ?_, ?_⟩) u.gg
    · rw [q1, k3.1]
    · rw [q2]; exact pr_setP (by exact r) k3.2
end
end Sim

/-! cells of any kind, lent to a def that only reads them -/
namespace Sim
open PySem L2 Evl
section
variable {σ : L2.St} {G0 H0 G H G1 H1 W : Hp} {ls : List Addr} {cs : Cs} {l : Addr} {cp0 : CP} {te : TE} {α β : Type} {R : Rep α} {S : Rep β} {cp : β → CP}
structure LentP (G W : Hp) (l : Addr) (cp : CP) : Prop where
  n : G l = none
  at_ : ∃ o, W l = some o ∧ cp.p G o
theorem Wo.lentP {i : Nat} (w : Wo G0 H0 ls G H cs) (h : cs[i]? = some (l, cp0)) : LentP G H l cp0 := by
  obtain ⟨h1, o, h2, h3⟩ := w.w.getAt h
  exact ⟨h1, o, h2, h3⟩
theorem Wo.lentPOf (w : Wo G0 H0 ls G H cs) (L : LentP G0 H0 l cp0) (h : l ∉ ls) : LentP G H l cp0 := by
  obtain ⟨o, h2, h3⟩ := L.at_
  exact ⟨w.f.nw _ (by rw [h2]; simp) L.n, o, w.f.fr _ _ h2 h, cp0.mono w.f.gg h3⟩
theorem LentP.up (L : LentP G W l cp0) (e' : Ex W H) (u : Up G H G1 H1) : LentP G1 H1 l cp0 := by
  obtain ⟨o, h2, h3⟩ := L.at_
  exact ⟨u.nw _ (by rw [e' _ _ h2]; simp) L.n, o, u.hh _ _ (e' _ _ h2), cp0.mono u.gg h3⟩
theorem LentP.rl {x : β} (F : Fz cp S) (L : LentP G W l (cp x)) (e : Ex G W) : S.r W (.ref l) x := by
  obtain ⟨o, h2, h3⟩ := L.at_
  exact F h3 e h2
/-- the lent thing read off a variable, at the heap itself -/
theorem e_lentP {i : Nat} {x : β} (F : Fz cp S) (hi : σ[i]? = some (some (.ref l))) (L : LentP G W l (cp x)) (e0 : Ex G W) : E (tVar i) σ W W S (some x) := e_var hi (L.rl F e0)
variable {K : PySem.W.Frag} {C : Addr} {ta : TA} {X : XK} {κ ι δ γ : Type} {A : AR ι} {B : Rep κ} {D : Ends} {tz : TS} {ns : List Str}
/-- the making of an object with a new list, some arguments lent (le tells them) -/
def PIAM (C : Addr) (A : AR ι) (le : ι → δ → Cs) (B : Rep κ) (ns : List Str) (fl : Addr → α → List Pd) (f : δ → ι → Option α) : Sp := fun vs H Q _ => ∃ G x ws i ys o, vs = .ref x :: ws ∧ Wd G H [(x, cI C [] [])] ∧ A.r G ws i ∧ (∀ c ∈ le i ys, LentP G H c.1 c.2) ∧ f ys i = some o ∧
  ∀ H2 G2 p, H p = none → Fr G H G2 H2 [x] → Wd G2 H2 [(p, cL B []), (x, cI C ns (fl p o))] → Q .non H2
theorem x_makeAM {a : Nat} {le : ι → δ → Cs} {fl : Addr → α → List Pd} {f : δ → ι → Option α} {mi : Option ι} {i : ι} {ys : δ} {z : α} (w : Wo G0 H0 ls G H cs) (ha : EA ta σ G H A mi) (hi : mi = some i) (L : ∀ c ∈ le i ys, LentP G H c.1 c.2) (hz : f ys i = some z)
    (k : ∀ v p H2 G2, H0 p = none → Wo G0 H0 ls G2 H2 ((p, cL B []) :: cs) → Ex G G2 → (rObj C ns (fl p)).r G2 v z → tz D (σ.set a (some v)) H2) : tSeq (tAsg (tMake C (PIAM C A le B ns fl f) [] X ta) (gName a)) tz D σ H := by
  refine ha i hi H w.ex (Ex.refl _) _ fun vs H1 G1 u1 r1 => ?_
  intro x dx nx ndx ne
  rw [List.append_nil]
  have w1 : Wd G1 (upd (upd H1 dx (.own x)) x (.ins C dx [])) [(x, cI C [] [])] := new_ins u1.gh nx ndx ne
  have L2 : ∀ c ∈ le i ys, LentP G1 (upd (upd H1 dx (.own x)) x (.ins C dx [])) c.1 c.2 := fun c hc => by
    have L1 := (L c hc).up (Ex.refl _) u1
    obtain ⟨o', h2, h3⟩ := L1.at_
    exact ⟨L1.n, o', by rw [upd_ne (ne_of_none h2 nx), upd_ne (ne_of_none h2 ndx)]; exact h2, h3⟩
  refine ⟨G1, x, vs, i, ys, z, rfl, w1, r1, L2, hz, fun H2 G2 p np fr w2 => ⟨rfl, ?_⟩⟩
  have px : p ≠ x := fun z => by rw [z, upd_same] at np; cases np
  have np1 : H1 p = none := by
    rw [upd_ne px] at np
    by_cases q : p = dx
    · rw [q]; exact ndx
    · rw [upd_ne q] at np; exact np
  obtain ⟨G3, k1, k2, k3, dx', fs, k4, k5⟩ := ob_freeze w2.tail
  have hh : Ex H1 H2 := fun a o h => by
    have na : a ≠ x := ne_of_none h nx
    have nd : a ≠ dx := ne_of_none h ndx
    exact fr.fr a o (by rw [upd_ne na, upd_ne nd]; exact h) fun z => na (List.mem_singleton.mp z)
  have up : Up G1 H1 G3 H2 := ⟨fr.gg.trans k1, k2, hh, fun a h1 h2 => by
    have na : a ≠ x := fun z => by subst z; exact h1 nx
    have nd : a ≠ dx := fun z => by subst z; exact h1 ndx
    exact k3 a na (fr.nw a (by rw [upd_ne na, upd_ne nd]; exact h1) h2)⟩
  have u := u1.trans up
  obtain ⟨h1, o, h2, h3⟩ := w2.head
  have w3 : Wd G3 H2 [(p, cL B [])] := ⟨k2, fun c hc => by
    rw [List.mem_singleton.mp hc]
    exact ⟨k3 p px h1, o, h2, (cL B []).mono k1 h3⟩, List.nodup_cons.mpr ⟨List.not_mem_nil, List.nodup_nil⟩⟩
  have npH : H p = none := by
    cases q : H p with
    | none => rfl
    | some o => rw [u1.hh p o q] at np1; cases np1
  have n0 : H0 p = none := by
    cases q : H0 p with
    | none => rfl
    | some o => exact absurd npH (w.f.st p (by rw [q]; simp))
  exact k (.ref x) p H2 G3 n0 (w.newC npH u w3) u.gg ⟨x, dx', fs, rfl, k4, k5⟩
/-! dict(d), d a dict -/
abbrev rDcD : List V → Hp → VK → Prop := fun xs H Q => ∃ (a : Addr) (kvs : List (Key × V)), xs = [.ref a] ∧ Rd H a (.dK kvs) ∧ ∀ p, H p = none → Q (.ref p) (upd H p (.dK kvs))
theorem ec_dictM {kf : κ → Key} {td : TE} {m : Option (List (κ × α))} (h : E td σ G W (rM kf R) m) : EC (tCB rDcD (tCons td tNil)) σ G W (cM kf R) m := fun x hx H e e' Q q => by
  refine h x hx H e e' _ fun v H1 G1 u r => ?_
  obtain ⟨a, ws, rfl, h2, h3⟩ := r
  refine ⟨a, ws, rfl, .inl (u.gh a _ h2), fun p hp => ?_⟩
  have hp1 : G1 p = none := fresh_back u.gh hp
  refine q p _ G1 (fresh_back u.hh hp) (u.trans (up_new u.gh hp)) ⟨u.gh.trans (Ex.new hp), fun c hc => ?_, List.nodup_cons.mpr ⟨List.not_mem_nil, List.nodup_nil⟩⟩
  rw [List.mem_singleton.mp hc]
  exact ⟨hp1, _, upd_same, ws, rfl, h3⟩
end
end Sim

/-! TableAsker: an __init__ with a default; arguments read at the heap itself -/
namespace Sim
open PySem PySem.Spec PyProof.Rows L2 Evl
theorem SupP.binds1 {P : Program} {K : PySem.W.Frag} {mg : Str → Option Value} {D C f g : Addr} {fd : FuncData} {F : NdefX.NF} {ps : List Str} {dvs : List V} (Y : SupP P K mg D C f g fd F ps dvs) (n j : Nat) (hd : dvs ≠ []) (hn : n + (dvs.length - j) = ps.length)
    (h : ∀ (T : Addr) (kV doc pm : Value) (an : Option Addr) (ct : Value) (us its : List Value), us.length = n → its.length = dvs.length →
      ∃ k, bindArgs (PySem.W.fnX F.name F.qual F.params F.body F.scope F.cl (.ref T) kV doc pm an (.ref F.c) ct) ⟨us, []⟩ = seqItems? (.ref T) >>= k ∧ k (some its.toArray) = pure (ps.zip (us ++ its.drop j))) : ∃ ds, Vals (dvs.drop j) ds ∧ Binds K fd ps ds := by
  obtain ⟨oc, od, osl, dV, kV, doc, pm, an, ct, rfl, lk, hD⟩ := Y.lk
  rcases hD with ⟨e, _⟩ | ⟨_, T, o, its, m, rfl, lT, oT, rT⟩
  · exact absurd e hd
  · refine ⟨its.drop j, rT.drop j, fun s us X hlen => ?_⟩
    have l1 : its.length = dvs.length := rT.length.symm
    have l2 : us.length = n := by
      rw [List.length_append, List.length_drop, l1] at hlen
      omega
    obtain ⟨k, e1, e2⟩ := h T kV doc pm an ct us its l2 l1
    refine BindsTo.of_looks fun M => ?_
    rw [e1]
    exact looks_items X lT oT (.of_pure e2)
section
variable {K : PySem.W.Frag} {C : Addr} {σ : L2.St} {G0 H0 G H G2 H2 W : Hp} {ls : List Addr} {cs : Cs} {l : Addr} {ta tb tc : TE} {td : TE} {X : XK} {α β δ κ ι : Type} {R : Rep ι} {S : Rep β} {S2 : Rep δ} {B : Rep κ} {D : Ends} {tz : TS} {ns : List Str}
theorem keepM {κ : Type} [DecidableEq κ] {kf : κ → Key} {R : Rep α} (sc : R.Sc) {v : V} {x : List (κ × α)} (h : (rM kf R).r H v x) (k : ∀ a ws, H a = some (.dK ws) → H2 a = some (.dK ws)) : (rM kf R).r H2 v x := by
  obtain ⟨a, ws, rfl, h2, h3⟩ := h
  exact ⟨a, ws, rfl, k _ _ h2, Paired.mapP h3 fun _ _ q => ⟨q.1, sc q.2⟩⟩
theorem keepL {R : Rep α} (sc : R.Sc) {v : V} {x : List α} (h : (rL R).r H v x) (k : ∀ a ws, H a = some (.lst ws) → H2 a = some (.lst ws)) : (rL R).r H2 v x := by
  obtain ⟨a, ws, rfl, h2, h3⟩ := h
  exact ⟨a, ws, rfl, k _ _ h2, Paired.mapP h3 fun _ _ q => sc q⟩
theorem keepO {R : Rep α} {v : V} {x : Option α} (h : (rO R).r H v x) (k : ∀ y, R.r H v y → R.r H2 v y) : (rO R).r H2 v x := by
  cases x with
  | none => exact h
  | some y => exact k y h
theorem EC.s {κ : Type} [DecidableEq κ] {kf : κ → Key} {R : Rep α} {m : Option (List (κ × α))} (sc : R.Sc) (e : Ex G W) (h : EC ta σ W W (cM kf R) m) : EC ta σ G W (cM kf R) m := fun x hx H e1 e2 Q q =>
  h x hx H e2 e2 Q fun p H2 G2 np u w => by
    have up : Up G H G H2 := Up.same e1 u.hh
    refine q p H2 G np up ⟨up.gh, fun c hc => ?_, w.nd⟩
    obtain ⟨h1, o, h2, ws, rfl, h4⟩ := w.at_ c hc |> fun z => by
      rw [List.mem_singleton.mp hc] at z
      exact z
    rw [List.mem_singleton.mp hc]
    refine ⟨?_, _, h2, ws, rfl, Paired.mapP h4 fun _ _ q => ⟨q.1, sc q.2⟩⟩
    cases qz : G p with
    | none => rfl
    | some o => rw [e1 p o qz] at np; cases np
/-- the making of an object with a new list; some arguments are read at the heap itself -/
def PIAT (C : Addr) (R : Rep ι) (S : Rep β) (S2 : Rep δ) (B : Rep κ) (ns : List Str) (fl : Addr → α → List Pd) (f : ι → β → δ → Option α) : Sp := fun vs H Q _ => ∃ G x vo vt va i t al o, vs = [.ref x, vo, vt, va] ∧ Wd G H [(x, cI C [] [])] ∧ R.r G vo i ∧ S.r H vt t ∧ S2.r H va al ∧ f i t al = some o ∧
  ∀ H2 G2 p, H p = none → Fr G H G2 H2 [x] → Wd G2 H2 [(p, cL B []), (x, cI C ns (fl p o))] → Q .non H2
theorem c_makeT {fl : Addr → α → List Pd} {f : ι → β → δ → Option α} {vo vt va : V} {i : ι} {t : β} {al : δ} {z : α} {Q : VK} {vs dvs : List V} (w : Wo G0 H0 ls G H cs) (ho : R.r G vo i) (ht : S.r H vt t) (hl : S2.r H va al) (hv : vs ++ dvs = [vo, vt, va]) (hz : f i t al = some z)
    (k : ∀ v p H2 G2, H0 p = none → Wo G0 H0 ls G2 H2 ((p, cL B []) :: cs) → Ex G G2 → (rObj C ns (fl p)).r G2 v z → Q v H2) :
    ∀ x dx, H x = none → H dx = none → dx ≠ x → PIAT C R S S2 B ns fl f (.ref x :: (vs ++ dvs)) (upd (upd H dx (.own x)) x (.ins C dx [])) (fun v H2 => v = .non ∧ Q (.ref x) H2) X := by
  intro x dx nx ndx ne
  rw [hv]
  have w1 : Wd G (upd (upd H dx (.own x)) x (.ins C dx [])) [(x, cI C [] [])] := new_ins w.ex nx ndx ne
  have eH : Ex H (upd (upd H dx (.own x)) x (.ins C dx [])) := fun a o h => by rw [upd_ne (ne_of_none h nx), upd_ne (ne_of_none h ndx)]; exact h
  refine ⟨G, x, vo, vt, va, i, t, al, z, rfl, w1, ho, S.mono eH ht, S2.mono eH hl, hz, fun H2 G2 p np fr w2 => ⟨rfl, ?_⟩⟩
  have px : p ≠ x := fun z => by rw [z, upd_same] at np; cases np
  have npH : H p = none := by
    rw [upd_ne px] at np
    by_cases q : p = dx
    · rw [q]; exact ndx
    · rw [upd_ne q] at np; exact np
  obtain ⟨G3, k1, k2, k3, dx', fs, k4, k5⟩ := ob_freeze w2.tail
  have hh : Ex H H2 := fun a o h => by
    have na : a ≠ x := ne_of_none h nx
    have nd : a ≠ dx := ne_of_none h ndx
    exact fr.fr a o (by rw [upd_ne na, upd_ne nd]; exact h) fun z => na (List.mem_singleton.mp z)
  have u : Up G H G3 H2 := ⟨fr.gg.trans k1, k2, hh, fun a h1 h2 => by
    have na : a ≠ x := fun z => by subst z; exact h1 nx
    have nd : a ≠ dx := fun z => by subst z; exact h1 ndx
    exact k3 a na (fr.nw a (by rw [upd_ne na, upd_ne nd]; exact h1) h2)⟩
  obtain ⟨h1, o, h2, h3⟩ := w2.head
  have w3 : Wd G3 H2 [(p, cL B [])] := ⟨k2, fun c hc => by
    rw [List.mem_singleton.mp hc]
    exact ⟨k3 p px h1, o, h2, (cL B []).mono k1 h3⟩, List.nodup_cons.mpr ⟨List.not_mem_nil, List.nodup_nil⟩⟩
  have n0 : H0 p = none := by
    cases q : H0 p with
    | none => rfl
    | some o => exact absurd npH (w.f.st p (by rw [q]; simp))
  exact k (.ref x) p H2 G3 n0 (w.newC npH u w3) u.gg ⟨x, dx', fs, rfl, k4, k5⟩
/-- v = C(order, table): the default None -/
theorem x_makeT2 {a : Nat} {fl : Addr → α → List Pd} {f : ι → β → δ → Option α} {mo : Option ι} {mt : Option β} {i : ι} {t : β} {al : δ} {z : α} (w : Wo G0 H0 ls G H cs) (ho : E ta σ G H R mo) (hi : mo = some i) (ht : E tb σ H H S mt) (hmt : mt = some t) (hn : ∀ H', S2.r H' .non al) (hz : f i t al = some z)
    (k : ∀ v p H2 G2, H0 p = none → Wo G0 H0 ls G2 H2 ((p, cL B []) :: cs) → Ex G G2 → (rObj C ns (fl p)).r G2 v z → tz D (σ.set a (some v)) H2) : tSeq (tAsg (tMake C (PIAT C R S S2 B ns fl f) [.non] X (tCons ta (tCons tb tNil))) (gName a)) tz D σ H := by
  refine ho i hi H w.ex (Ex.refl _) _ fun v H1 G1 u1 r1 => ?_
  have w1 := w.up u1
  refine ht t hmt H1 u1.hh u1.hh _ fun v2 H3 G3 u3 r3 => ?_
  have w3 := w1.sc u3.hh
  exact c_makeT w3 r1 (S.mono u3.gh r3) (hn _) rfl hz fun v p H4 G4 n0 w4 e4 r4 => k v p H4 G4 n0 w4 (u1.gg.trans e4) r4
/-- v = C(order, table, allowed) -/
theorem x_makeT3 {a : Nat} {fl : Addr → α → List Pd} {f : ι → β → δ → Option α} {mo : Option ι} {mt : Option β} {ml : Option δ} {i : ι} {t : β} {al : δ} {z : α} (w : Wo G0 H0 ls G H cs) (ho : E ta σ G H R mo) (hi : mo = some i) (ht : E tb σ H H S mt) (hmt : mt = some t) (hl : E tc σ H H S2 ml) (hml : ml = some al) (hz : f i t al = some z)
    (k : ∀ v p H2 G2, H0 p = none → Wo G0 H0 ls G2 H2 ((p, cL B []) :: cs) → Ex G G2 → (rObj C ns (fl p)).r G2 v z → tz D (σ.set a (some v)) H2) : tSeq (tAsg (tMake C (PIAT C R S S2 B ns fl f) [] X (tCons ta (tCons tb (tCons tc tNil)))) (gName a)) tz D σ H := by
  refine ho i hi H w.ex (Ex.refl _) _ fun v H1 G1 u1 r1 => ?_
  have w1 := w.up u1
  refine ht t hmt H1 u1.hh u1.hh _ fun v2 H3 G3 u3 r3 => ?_
  have w3 := w1.sc u3.hh
  refine hl al hml H3 (u1.hh.trans u3.hh) (u1.hh.trans u3.hh) _ fun v4 H5 G5 u5 r5 => ?_
  have w5 := w3.sc u5.hh
  exact c_makeT w5 r1 (S.mono (u3.gh.trans u5.hh) r3) (S2.mono u5.gh r5) rfl hz fun v p H6 G6 n0 w6 e6 r6 => k v p H6 G6 n0 w6 (u1.gg.trans e6) r6
end
end Sim

/-! a comprehension whose test changes cells -/
namespace Sim
open PySem L2 Evl
section
variable {K : PySem.W.Frag} {σ : L2.St} {G0 H0 G H : Hp} {ls : List Addr} {cs : Cs} {tl te : TE} {tt : TT} {α γ : Type} {R : Rep α} {T : Rep γ} {D : Ends} {tz : TS}
theorem x_lcE {a j : Nat} {vs : List Nat} {xs : List α} {m : Option (List α)} (w : Wo G0 H0 ls G H cs) (h : E tl σ G H (rL R) m) (hm : m = some xs) (hw : ∀ x, wipe ((wipe σ vs).set j (some x)) vs = wipe σ vs) (P : Nat → Addr → Hp → Hp → Prop) (hP : ∀ i p G' H', P i p G' H' → Ex G' H')
    (h0 : ∀ p G' H', H0 p = none → Wo G0 H0 ls G' H' ((p, cL T []) :: cs) → Ex G G' → P 0 p G' H')
    (hs : ∀ p G1, Ex G G1 → ∀ i x v G' H', xs[i]? = some x → Ex G1 G' → P i p G' H' → R.r G' v x → tt ((wipe σ vs).set j (some v)) H' fun b H3 => if b = true then te ((wipe σ vs).set j (some v)) H3 fun y H4 => ∃ acc, H4 p = some (.lst acc) ∧ acc.length < sizeLine ∧ ∃ G4, Ex G1 G4 ∧ P (i + 1) p G4 (upd H4 p (.lst (acc ++ [y]))) else ∃ G3, Ex G1 G3 ∧ P (i + 1) p G3 H3)
    (hd : ∀ p G' H', H0 p = none → P xs.length p G' H' → tz D (σ.set a (some (.ref p))) H') : tSeq (tAsg (tLc (iList K tl) (gName j) tt te vs) (gName a)) tz D σ H := by
  refine h xs hm H w.ex (Ex.refl _) _ fun v H1 G1 u r => ?_
  have w1 := w.up u
  obtain ⟨b, us, rfl, h2, h3⟩ := r
  refine ⟨b, rfl, ⟨us, Or.inl (Or.inl (u.gh _ _ h2))⟩, fun p hp => ?_⟩
  have n0 : H0 p = none := by
    cases q : H0 p with
    | none => rfl
    | some o => exact absurd hp (w1.f.st p (by rw [q]; simp))
  have hp1 : G1 p = none := fresh_back u.gh hp
  have w2 : Wo G0 H0 ls G1 (upd H1 p (.lst [])) ((p, cL T []) :: cs) := w1.newC hp (Up.same w1.ex (Ex.new hp)) ⟨w1.ex.trans (Ex.new hp), fun c hc => by
    rw [List.mem_singleton.mp hc]
    exact ⟨hp1, _, upd_same, [], rfl, .nil⟩, List.nodup_cons.mpr ⟨List.not_mem_nil, List.nodup_nil⟩⟩
  refine lc_list (K := K) (a := b) (xs := us) (fun i H' => ∃ G', Ex G1 G' ∧ P i p G' H') ⟨G1, Ex.refl _, h0 p _ _ n0 w2 u.gg⟩ (fun i H' _ q => ?_) (fun i y H' hy q => ?_) fun H' q => ?_
  · obtain ⟨G', e, q⟩ := q
    exact Or.inl (Or.inl (hP _ _ _ _ q _ _ (e _ _ h2)))
  · obtain ⟨G', e, q⟩ := q
    obtain ⟨x, hx, r⟩ := pr_get' h3 hy
    exact ⟨hw y, hs p G1 u.gg i x y G' H' hx e q (R.mono e r)⟩
  · obtain ⟨G', e, q⟩ := q
    rw [h3.length] at q
    exact hd p G' H' n0 q
theorem c_lcput {p : Addr} {ys : List γ} {y : γ} {v : V} {Z : List V → Prop} (w : Wo G0 H0 ls G H ((p, cL T ys) :: cs)) (hs : sz ys.length = true) (r : T.r G v y)
    (k : ∀ acc, Wo G0 H0 ls G (upd H p (.lst (acc ++ [v]))) ((p, cL T (ys ++ [y])) :: cs) → Z acc) : ∃ acc, H p = some (.lst acc) ∧ acc.length < sizeLine ∧ Z acc := by
  obtain ⟨_, o, h2, us, rfl, h3⟩ := w.w.getAt (i := 0) rfl
  exact ⟨us, h2, by rw [h3.length]; exact sz_l hs, k us (w.writeAt (i := 0) rfl ⟨us ++ [v], rfl, pr_app h3 (.cons r .nil)⟩)⟩
end
end Sim
namespace Sim
open PySem L2 Evl
section
variable {K : PySem.W.Frag} {σ : L2.St} {G0 H0 G H : Hp} {ls : List Addr} {cs : Cs} {l : Addr} {α κ : Type} [DecidableEq κ] {kf : κ → Key} {R : Rep α} {Q : VK}
/-- d.clear() -/
theorem c_dclear {i j : Nat} {kvs : List (κ × α)} (w : Wo G0 H0 ls G H cs) (hc : cs[j]? = some (l, cM kf R kvs)) (hi : σ[i]? = some (some (.ref l))) (k : ∀ H2, Wo G0 H0 ls G H2 (cs.set j (l, cM kf R [])) → Q .non H2) : tBM0 K "dict" rDClear (tVar i) σ H Q := by
  obtain ⟨_, o3, k2, ws, rfl, k3⟩ := w.w.getAt hc
  exact ⟨.ref l, hi, Or.inr (Or.inr (Or.inl ⟨rfl, Or.inl ⟨_, k2⟩⟩)), l, ws, rfl, rfl, k2, k _ (w.writeAt hc ⟨_, rfl, .nil⟩)⟩
end
end Sim

/-! functions made by a lambda; their captured cells laid in the heap as known things -/
namespace LamF
open PySem PySem.Spec PyProof.Rows L2 LamX NdefX
/-- a cell, known as it stands -/
def CelO (o : Obj) : HO := .frz o (.ext fun _ => True)
/-- cells laid, taken out -/
def layH (cs : List (Addr × Obj)) (H : Hp) : Hp := fun a => match cs.lookup a with
  | some o => some (CelO o)
  | none => H a
def unlayH (cs : List (Addr × Obj)) (H : Hp) : Hp := fun a => match cs.lookup a with
  | some _ => none
  | none => H a
section
variable {cs : List (Addr × Obj)} {H H' H0 : Hp} {a : Addr} {o : Obj}
theorem lay_in (h : cs.lookup a = some o) : layH cs H a = some (CelO o) := by unfold layH; rw [h]
theorem lay_out (h : cs.lookup a = none) : layH cs H a = H a := by unfold layH; rw [h]
theorem unlay_in (h : cs.lookup a = some o) : unlayH cs H a = none := by unfold unlayH; rw [h]
theorem unlay_out (h : cs.lookup a = none) : unlayH cs H a = H a := by unfold unlayH; rw [h]
theorem lay_unlay (h : ∀ a o, cs.lookup a = some o → H a = some (CelO o)) : layH cs (unlayH cs H) = H := by
  funext a
  cases e : cs.lookup a with
  | some o => rw [lay_in e, h a o e]
  | none => rw [lay_out e, unlay_out e]
theorem unlay_lay (h : ∀ a o, cs.lookup a = some o → H a = none) : unlayH cs (layH cs H) = H := by
  funext a
  cases e : cs.lookup a with
  | some o => rw [unlay_in e, h a o e]
  | none => rw [unlay_out e, lay_out e]
theorem lay_ex (h : ∀ a o, cs.lookup a = some o → H a = none) {b : Addr} {u : HO} (e : H b = some u) : layH cs H b = some u := by
  cases q : cs.lookup b with
  | some o => rw [h b o q] at e; cases e
  | none => rw [lay_out q]; exact e
/-- these cells stand in h, none of them a frame's -/
structure Stand (fs : List Addr) (cs : List (Addr × Obj)) (h : Heap) : Prop where
  at_ : ∀ c o, cs.lookup c = some o → h.get? c = some o
  cel : ∀ c o, cs.lookup c = some o → ∃ v, o.data = .cell v
  nf : ∀ c o, cs.lookup c = some o → c ∉ fs
end
section
variable {P : Program} {w : World} {cs : List (Addr × Obj)} {H H' H0 H1 : Hp} {h h' B : Heap} {fs : List Addr}
theorem hok_lay (S : Stand fs cs h) (hn : ∀ c o, cs.lookup c = some o → H c = none) (hok : HOk P w H h) : HOk P w (layH cs H) h := fun b u e => by
  cases q : cs.lookup b with
  | some o =>
    rw [lay_in q] at e
    cases e
    exact ⟨S.at_ _ _ q, trivial, ⟨o, S.at_ _ _ q⟩, fun _ _ _ _ => trivial⟩
  | none =>
    rw [lay_out q] at e
    exact (hok b u e).stay (fun _ _ _ z => z) (fun _ z => lay_ex hn z) fun _ _ z => lay_ex hn z
theorem hok_unlay (hl : ∀ c o, cs.lookup c = some o → H c = some (CelO o)) (hok : HOk P w H h) : HOk P w (unlayH cs H) h := fun b u e => by
  cases q : cs.lookup b with
  | some o => rw [unlay_in q] at e; cases e
  | none =>
    rw [unlay_out q] at e
    have k : ∀ c v, (∀ o, v ≠ CelO o) → H c = some v → unlayH cs H c = some v := fun c v n z => by
      cases q : cs.lookup c with
      | some o => rw [hl c o q] at z; exact absurd (Option.some.inj z).symm (n o)
      | none => rw [unlay_out q]; exact z
    exact (hok b u e).stay (fun _ _ _ z => z) (fun _ z => k _ _ (fun o z => by cases z) z) fun _ _ z => k _ _ (fun o z => by cases z) z
/-- what a call leaves, told without the cells -/
theorem un_unlay (hl : ∀ c o, cs.lookup c = some o → H c = some (CelO o)) (S : Stand fs cs h) (hok' : HOk P w H' h') (u : Un fs [] H H' h h') :
    Un fs [] (unlayH cs H) (unlayH cs H') h h' ∧ ∀ c o, cs.lookup c = some o → H' c = some (CelO o) := by
  have hl' : ∀ c o, cs.lookup c = some o → H' c = some (CelO o) := fun c o q => u.frzs c _ _ (hl c o q)
  have same : ∀ c o, cs.lookup c = some o → h'.get? c = some o := fun c o q => (hok' c _ (hl' c o q)).1
  have dn : ∀ b, cs.lookup b = none → unlayH cs H b = none → H b = none := fun b q z => by rw [unlay_out q] at z; exact z
  have tt : ∀ b v, (∀ o, v ≠ CelO o) → unlayH cs H b = some v → cs.lookup b = none ∧ H b = some v := fun b v n z => by
    cases q : cs.lookup b with
    | some o => rw [unlay_in q] at z; cases z
    | none => rw [unlay_out q] at z; exact ⟨rfl, z⟩
  refine ⟨⟨fun b o e n hb hx => ?_, fun b o e n hb hx => ?_, fun b o e n hx => ?_, u.there, fun b xs e => ?_, fun b o v e => ?_, fun b ps e => ?_⟩, hl'⟩
  · cases q : cs.lookup b with
    | some o' =>
      have := S.at_ _ _ q
      rw [e] at this
      cases this
      exact same b _ q
    | none => exact u.keep b o e (dn b q n) hb hx
  · cases q : cs.lookup b with
    | some o' => exact absurd hb (S.nf _ _ q)
    | none => exact u.slot b o e (dn b q n) hb hx
  · cases q : cs.lookup b with
    | some o' => exact unlay_in q
    | none => rw [unlay_out q]; exact u.free b o e (dn b q n) hx
  · obtain ⟨q, z⟩ := tt b _ (fun o z => by cases z) e
    rw [unlay_out q]
    exact u.tups b xs z
  · cases q : cs.lookup b with
    | some o' => rw [unlay_in q] at e; cases e
    | none => rw [unlay_out q] at e ⊢; exact u.frzs b o v e
  · obtain ⟨q, z⟩ := tt b _ (fun o z => by cases z) e
    rw [unlay_out q]
    exact u.tbls b ps z
/-- .. told with the cells -/
theorem un_lay (hn : ∀ c o, cs.lookup c = some o → H c = none) (S : Stand fs cs h) (u : Un fs [] H H' h h') : Un fs [] (layH cs H) (layH cs H') h h' ∧ (∀ c o, cs.lookup c = some o → H' c = none) ∧ Stand fs cs h' := by
  have hn' : ∀ c o, cs.lookup c = some o → H' c = none := fun c o q => u.free c o (S.at_ _ _ q) (hn c o q) (by simp)
  have up : ∀ b v, H' b = some v → layH cs H' b = some v := fun b v e => lay_ex hn' e
  have dn : ∀ b v, (∀ o, v ≠ CelO o) → layH cs H b = some v → H b = some v := fun b v n z => by
    cases q : cs.lookup b with
    | some o => rw [lay_in q] at z; exact absurd (Option.some.inj z).symm (n o)
    | none => rw [lay_out q] at z; exact z
  refine ⟨⟨fun b o e n hb hx => ?_, fun b o e n hb hx => ?_, fun b o e n hx => ?_, u.there, fun b xs e => up _ _ (u.tups b xs (dn _ _ (fun o z => by cases z) e)), fun b o v e => ?_, fun b ps e => ?_⟩, hn', ⟨fun c o q => u.keep c o (S.at_ _ _ q) (hn c o q) (S.nf _ _ q) (by simp), S.cel, S.nf⟩⟩
  · cases q : cs.lookup b with
    | some o' => rw [lay_in q] at n; cases n
    | none => rw [lay_out q] at n; exact u.keep b o e n hb hx
  · cases q : cs.lookup b with
    | some o' => rw [lay_in q] at n; cases n
    | none => rw [lay_out q] at n; exact u.slot b o e n hb hx
  · cases q : cs.lookup b with
    | some o' => rw [lay_in q] at n; cases n
    | none => rw [lay_out q] at n ⊢; exact u.free b o e n hx
  · cases q : cs.lookup b with
    | some o' => rw [lay_in q] at e ⊢; exact e
    | none => rw [lay_out q] at e ⊢; exact u.frzs b o v e
  · obtain ⟨more, z⟩ := u.tbls b ps (dn _ _ (fun o z => by cases z) e)
    exact ⟨more, up _ _ z⟩
theorem ub_unlay (hl : ∀ c o, cs.lookup c = some o → H c = some (CelO o)) (S : Stand fs cs h) (hokB : HOk P w H' B) (u : UB fs H H' h B h') :
    UB fs (unlayH cs H) (unlayH cs H') h B h' ∧ ∀ c o, cs.lookup c = some o → H' c = some (CelO o) := by
  have hl' : ∀ c o, cs.lookup c = some o → H' c = some (CelO o) := fun c o q => u.frzs c _ _ (hl c o q)
  have same : ∀ c o, cs.lookup c = some o → B.get? c = some o := fun c o q => (hokB c _ (hl' c o q)).1
  have dn : ∀ b, cs.lookup b = none → unlayH cs H b = none → H b = none := fun b q z => by rw [unlay_out q] at z; exact z
  have tt : ∀ b v, (∀ o, v ≠ CelO o) → unlayH cs H b = some v → cs.lookup b = none ∧ H b = some v := fun b v n z => by
    cases q : cs.lookup b with
    | some o => rw [unlay_in q] at z; cases z
    | none => rw [unlay_out q] at z; exact ⟨rfl, z⟩
  refine ⟨⟨fun b o e n hb => ?_, u.slot, fun b o e n => ?_, u.there, fun b xs e => ?_, fun b o v e => ?_, fun b ps e => ?_⟩, hl'⟩
  · cases q : cs.lookup b with
    | some o' =>
      have := S.at_ _ _ q
      rw [e] at this
      cases this
      exact same b _ q
    | none => exact u.keep b o e (dn b q n) hb
  · cases q : cs.lookup b with
    | some o' => exact unlay_in q
    | none => rw [unlay_out q]; exact u.free b o e (dn b q n)
  · obtain ⟨q, z⟩ := tt b _ (fun o z => by cases z) e
    rw [unlay_out q]
    exact u.tups b xs z
  · cases q : cs.lookup b with
    | some o' => rw [unlay_in q] at e; cases e
    | none => rw [unlay_out q] at e ⊢; exact u.frzs b o v e
  · obtain ⟨q, z⟩ := tt b _ (fun o z => by cases z) e
    rw [unlay_out q]
    exact u.tbls b ps z
theorem ub_lay (hn : ∀ c o, cs.lookup c = some o → H c = none) (S : Stand fs cs h) (u : UB fs H H' h B h') : UB fs (layH cs H) (layH cs H') h B h' ∧ (∀ c o, cs.lookup c = some o → H' c = none) ∧ Stand fs cs B := by
  have hn' : ∀ c o, cs.lookup c = some o → H' c = none := fun c o q => u.free c o (S.at_ _ _ q) (hn c o q)
  have up : ∀ b v, H' b = some v → layH cs H' b = some v := fun b v e => lay_ex hn' e
  have dn : ∀ b v, (∀ o, v ≠ CelO o) → layH cs H b = some v → H b = some v := fun b v n z => by
    cases q : cs.lookup b with
    | some o => rw [lay_in q] at z; exact absurd (Option.some.inj z).symm (n o)
    | none => rw [lay_out q] at z; exact z
  refine ⟨⟨fun b o e n hb => ?_, u.slot, fun b o e n => ?_, u.there, fun b xs e => up _ _ (u.tups b xs (dn _ _ (fun o z => by cases z) e)), fun b o v e => ?_, fun b ps e => ?_⟩, hn', ⟨fun c o q => u.keep c o (S.at_ _ _ q) (hn c o q) (S.nf _ _ q), S.cel, S.nf⟩⟩
  · cases q : cs.lookup b with
    | some o' => rw [lay_in q] at n; cases n
    | none => rw [lay_out q] at n; exact u.keep b o e n hb
  · cases q : cs.lookup b with
    | some o' => rw [lay_in q] at n; cases n
    | none => rw [lay_out q] at n ⊢; exact u.free b o e n
  · cases q : cs.lookup b with
    | some o' => rw [lay_in q] at e ⊢; exact e
    | none => rw [lay_out q] at e ⊢; exact u.frzs b o v e
  · obtain ⟨more, z⟩ := u.tbls b ps (dn _ _ (fun o z => by cases z) e)
    exact ⟨more, up _ _ z⟩
end
/-- what may leave a def, told with or without the cells -/
structure CXlay (CXT0 : CXT) (P : Program) (w : World) : Prop where
  un : ∀ {outer : List Env} {H : Hp} {s s' : Shared} {E : XK} {e : Value} {cs : List (Addr × Obj)}, Stand (frs outer) cs s.heap → (∀ c o, cs.lookup c = some o → H c = some (CelO o)) → CXT0 outer H s E e s' → CXT0 outer (unlayH cs H) s (fun c d H' => E c d (layH cs H')) e s'
  ly : ∀ {outer : List Env} {H : Hp} {s s' : Shared} {E : XK} {e : Value} {cs : List (Addr × Obj)}, Stand (frs outer) cs s.heap → (∀ c o, cs.lookup c = some o → H c = none) → CXT0 outer H s (fun c d H' => E c d (layH cs H')) e s' → CXT0 outer (layH cs H) s E e s'
theorem cxlay0 {P : Program} {w : World} : CXlay C8.CX0 P w := ⟨fun _ _ h => h, fun _ _ h => h⟩
theorem cxlay {P : Program} {w : World} : CXlay (L2.CX P w) P w := by
  refine ⟨fun {outer H s s' E e cs} S hl h => ?_, fun {outer H s s' E e cs} S hn h => ?_⟩
  · obtain ⟨a, B, H', cls, d, rfl, fl, hok, ub, na, os, ag, hE⟩ := h
    obtain ⟨ub2, hl'⟩ := ub_unlay hl S hok ub
    refine ⟨a, B, unlayH cs H', cls, d, rfl, fl, hok_unlay hl' hok, ub2, ?_, os, ag, ?_⟩
    · cases q : cs.lookup a with
      | some o => exact unlay_in q
      | none => rw [unlay_out q]; exact na
    · show E cls d (layH cs (unlayH cs H'))
      rw [lay_unlay hl']
      exact hE
  · obtain ⟨a, B, H', cls, d, rfl, fl, hok, ub, na, os, ag, hE⟩ := h
    obtain ⟨ub2, hn', SB⟩ := ub_lay hn S ub
    refine ⟨a, B, layH cs H', cls, d, rfl, fl, hok_lay SB hn' hok, ub2, ?_, os, ag, hE⟩
    cases q : cs.lookup a with
    | some o =>
      have e1 := fl.2.1
      rw [SB.at_ _ _ q] at e1
      cases e1
    | none => rw [lay_out q]; exact na
section
variable {P : Program} {w : World} {CX : CXT} {outer : List Env} {H : Hp} {s s' : Shared} {Q : VK} {E : XK} {cs : List (Addr × Obj)}
theorem ce_unlay {u : Value} (S : Stand (frs outer) cs s.heap) (hl : ∀ c o, cs.lookup c = some o → H c = some (CelO o)) (h : CE outer P w H s Q u s') : CE outer P w (unlayH cs H) s (fun v H' => Q v (layH cs H')) u s' := by
  obtain ⟨v, H', os, bare, un, hok, r, q⟩ := h
  obtain ⟨un2, hl'⟩ := un_unlay hl S hok un
  exact ⟨v, unlayH cs H', os, bare, un2, hok_unlay hl' hok, r, by show Q v (layH cs (unlayH cs H')); rw [lay_unlay hl']; exact q⟩
theorem ce_lay {u : Value} (S : Stand (frs outer) cs s.heap) (hn : ∀ c o, cs.lookup c = some o → H c = none) (h : CE outer P w H s (fun v H' => Q v (layH cs H')) u s') : CE outer P w (layH cs H) s Q u s' := by
  obtain ⟨v, H', os, bare, un, hok, r, q⟩ := h
  obtain ⟨un2, hn', S'⟩ := un_lay hn S un
  exact ⟨v, layH cs H', os, bare, un2, hok_lay S' hn' hok, r, q⟩
theorem cr_unlay {r : Result} (C : CXlay CX P w) (S : Stand (frs outer) cs s.heap) (hl : ∀ c o, cs.lookup c = some o → H c = some (CelO o)) (h : CR CX outer P w H s Q E r s') : CR CX outer P w (unlayH cs H) s (fun v H' => Q v (layH cs H')) (fun c d H' => E c d (layH cs H')) r s' := by
  cases r with
  | error e => exact C.un S hl h
  | ok f =>
    cases f with
    | ret u => exact ce_unlay S hl h
    | next => exact h
    | brk => exact h
    | cont => exact h
theorem cr_lay {r : Result} (C : CXlay CX P w) (S : Stand (frs outer) cs s.heap) (hn : ∀ c o, cs.lookup c = some o → H c = none) (h : CR CX outer P w H s (fun v H' => Q v (layH cs H')) (fun c d H' => E c d (layH cs H')) r s') : CR CX outer P w (layH cs H) s Q E r s' := by
  cases r with
  | error e => exact C.ly S hn h
  | ok f =>
    cases f with
    | ret u => exact ce_lay S hn h
    | next => exact h
    | brk => exact h
    | cont => exact h
end
end LamF

/-! lambdas: made, called, handed over -/
namespace LamF
open PySem PySem.Spec PyProof.Rows L2 LamX NdefX
/-- a function that a lambda made -/
structure LF where
  qual : Str
  params : Arguments
  body : Expr
  scope : Scope
  cl : List (Str × Addr)
  c : Addr
abbrev LF.nf (F : LF) : NF := ⟨"<lambda>", F.qual, F.params, [], F.scope, F.cl, F.c⟩
abbrev LF.obj (F : LF) (pm ctv : Value) : Obj := PySem.W.kla_obj "<lambda>" F.qual F.params F.body F.scope F.cl pm F.c ctv
def FnL (f : Addr) (F : LF) : HO := .ext fun h => ∃ pm ctv, h.get? f = some (F.obj pm ctv)
theorem fnL_ok {P : Program} {w : World} {H : Hp} {h : Heap} {f : Addr} {F : LF} {pm ctv : Value} (e : h.get? f = some (F.obj pm ctv)) : ObjOk P w H h f (FnL f F) :=
  ⟨⟨pm, ctv, e⟩, ⟨_, e⟩, fun _ _ ⟨pm, ctv, e⟩ k => ⟨pm, ctv, k _ e⟩⟩
/-- the table's codes bear this name -/
structure Cds (H : Hp) (q : Str) (ps : Array Value) : Prop where
  ok : TriplesOk ps.toList
  cd : ∀ (pos : Pos) (cv : Value), codeAmong pos ps.toList = some cv → ∃ c, cv = .ref c ∧ H c = some (CodeO c q)
/-- what the making of a lambda leaves -/
structure Lm (H H1 : Hp) (P f : Addr) (F : LF) (ps0 ps : Array Value) : Prop where
  nf : H f = none
  src : H F.c = none ∨ ∃ pos, codeAmong pos ps0.toList = some (.ref F.c)
  old : ∀ (pos : Pos) (cv : Value), codeAmong pos ps.toList = some cv → codeAmong pos ps0.toList = some cv ∨ cv = .ref F.c
  at_ : H1 f = some (FnL f F)
  co : H1 F.c = some (CodeO F.c F.qual)
  tb : H1 P = some (.tbl ps)
  cd : Cds H1 F.qual ps
  ex : ∀ b o, b ≠ P → H b = some o → H1 b = some o
  nw : ∀ b, H1 b ≠ none → H b = none → b = f ∨ b = F.c
def tLam (P : Addr) (mk : Addr → LF) : TE := fun σ H Q => ∃ ps, H P = some (.tbl ps) ∧ Cds H (mk 0).qual ps ∧ ∀ f c' ps' H1, Lm H H1 P f (mk c') ps ps' → Q (.ref f) H1
section
variable {X : Cx} {pins : List (Addr × Obj)} {σ : L2.St} {H : Hp} {s : Shared}
theorem pe_lam {c P : Addr} {params : Arguments} {body : Expr} {scope : Scope} {pos : Pos} (TB : TabB X.base X.mg c P) (hcode : X.env.code = .ref c) (hdef : defaultsOf params X.env = ([], [])) (hfree : X.Ok → ∀ y ∈ scope.names, y.2 = .free → ∃ c, X.env.cells.lookup y.1 = some c) :
    PE X (.Lambda params body scope pos) (tLam P fun c' => ⟨X.env.qual ++ "<lambda>", params, body, scope, cloFrom X.env.cells scope.names [], c'⟩) := by
  constructor
  intro pins s σ H Q I hq
  obtain ⟨ps, hP, ⟨ht, ha⟩, fin⟩ := hq
  have hcl := closure_ok (hfree I.ok)
  have hg := I.mod.glob.keeps I.bk
  have hd := TB.code.keeps I.bk
  have hb := TB.bm.keeps I.bk
  have hP' : s.heap.get? P = some { cls := .none, data := .fields ps } := I.hok P _ hP
  apply PySem.W.kla_eval hdef
  cases hc : codeAmong pos ps.toList with
  | some cv =>
    obtain ⟨c', rfl, hco⟩ := ha pos cv hc
    apply PySem.W.kla_makeFunctionHit (mg := X.mg) (c := c) (P := P) (ps := ps) hcl I.ok.glob hg hcode hd hP' ht hc hb
    intro ctv h' tk hx hsz
    have nF : H h'.objs.size = none := I.hok.fresh hsz
    let F : LF := ⟨X.env.qual ++ "<lambda>", params, body, scope, cloFrom X.env.cells scope.names [], c'⟩
    have J := I.laid (a := h'.objs.size) (o := FnL h'.objs.size F) (t' := tk) (h' := h'.push (F.obj ((X.mg "__name__").getD .none) ctv)) (fun b o e => Heap.get?_push_of_some _ (hx b o e)) hsz (fnL_ok (Heap.get?_push_size _ rfl))
    have up : ∀ b o, H b = some o → upd H h'.objs.size (FnL h'.objs.size F) b = some o := fun b o e => by rw [upd_ne (ne_of_none e nF)]; exact e
    refine ⟨.ref h'.objs.size, _, J, rfl, fin h'.objs.size c' ps _ ⟨nF, .inr ⟨pos, hc⟩, fun _ _ z => .inl z, upd_same, up _ _ hco, up _ _ hP, ⟨ht, fun p cv e => ?_⟩, fun b o _ e => up b o e, fun b e n => ?_⟩⟩
    · obtain ⟨c0, e1, e2⟩ := ha p cv e
      exact ⟨c0, e1, up _ _ e2⟩
    · by_cases q : b = h'.objs.size
      · exact .inl q
      · rw [upd_ne q] at e
        exact absurd n e
  | none =>
    apply PySem.W.kla_makeFunction (mg := X.mg) (c := c) (P := P) (ps := ps) hcl I.ok.glob hg hcode hd hP' ht hc TB.gP hb
    intro c' ctv h' tk hx hge hlt hrec htb
    obtain ⟨c2, oc, vs, t, e2, hoc, hdd, hv⟩ := hrec
    cases e2
    have nC : H c' = none := I.hok.fresh hge
    have hsz : s.heap.objs.size ≤ h'.objs.size := Nat.le_trans hge (Nat.le_of_lt hlt)
    have nF : H h'.objs.size = none := I.hok.fresh hsz
    have I1 := inv_table (t' := tk) (q := X.env.qual ++ "<lambda>") (more := #[rawInt pos.line, rawInt pos.col, .ref c']) I hP (fun b o hb e => hx b o hb e) htb hge ⟨oc, vs, t, hoc, hdd, hv⟩
    let F : LF := ⟨X.env.qual ++ "<lambda>", params, body, scope, cloFrom X.env.cells scope.names [], c'⟩
    have J := I1.laid (a := h'.objs.size) (o := FnL h'.objs.size F) (t' := tk) (h' := h'.push (F.obj ((X.mg "__name__").getD .none) ctv)) (fun b o e => Heap.get?_push_of_some _ e) (Nat.le_refl _) (fnL_ok (Heap.get?_push_size _ rfl))
    have n1 : c' ≠ h'.objs.size := Nat.ne_of_lt hlt
    have n2 : P ≠ h'.objs.size := ne_of_none hP nF
    have n3 : P ≠ c' := ne_of_none hP nC
    have up : ∀ b o, b ≠ P → H b = some o → upd (upd (upd H P (.tbl (ps ++ #[rawInt pos.line, rawInt pos.col, .ref c']))) c' (CodeO c' (X.env.qual ++ "<lambda>"))) h'.objs.size (FnL h'.objs.size F) b = some o := fun b o hb e => by
      rw [upd_ne (ne_of_none e nF), upd_ne (ne_of_none e nC), upd_ne hb]
      exact e
    have eL : (ps ++ #[rawInt pos.line, rawInt pos.col, .ref c']).toList = ps.toList ++ [rawInt pos.line, rawInt pos.col, .ref c'] := by simp
    have cC : upd (upd (upd H P (.tbl (ps ++ #[rawInt pos.line, rawInt pos.col, .ref c']))) c' (CodeO c' (X.env.qual ++ "<lambda>"))) h'.objs.size (FnL h'.objs.size F) c' = some (CodeO c' (X.env.qual ++ "<lambda>")) := by rw [upd_ne n1, upd_same]
    refine ⟨.ref h'.objs.size, _, J, rfl, fin h'.objs.size c' _ _ ⟨nF, .inl nC, fun p cv e => ?old, upd_same, cC, by rw [upd_ne n2, upd_ne n3, upd_same], ⟨by rw [eL]; exact PySem.TriplesOk_snoc _ _ _ _ ht, fun p cv e => ?_⟩, up, fun b e n => ?_⟩⟩
    case old =>
      rw [eL] at e
      exact among_app _ ht e
    · rw [eL] at e
      rcases among_app _ ht e with z | z
      · obtain ⟨c0, e1, e2⟩ := ha p cv z
        refine ⟨c0, e1, up _ _ (fun z => ?_) e2⟩
        rw [z, hP] at e2
        exact codeO_ne ps (Option.some.inj e2).symm
      · exact ⟨c', z, cC⟩
    · by_cases q : b = h'.objs.size
      · exact .inl q
      · by_cases q2 : b = c'
        · exact .inr q2
        · rw [upd_ne q, upd_ne q2] at e
          by_cases q3 : b = P
          · rw [q3, hP] at n; cases n
          · rw [upd_ne q3] at e
            exact absurd n e
end
/-! ### a call with the own cells of these names laid -/
structure LaidBy (X : Cx) (fr : List Str) (σ : L2.St) (H : Hp) (cs : List (Addr × Obj)) : Prop where
  inj : ∀ x y c, X.env.cells.lookup x = some c → X.env.cells.lookup y = some c → x = y
  nn : ∀ c o, cs.lookup c = some o → H c = none
  at_ : ∀ y ∈ fr, ∃ c o u, X.env.cells.lookup y = some c ∧ cs.lookup c = some o ∧ o.data = .cell u ∧ ∀ (i : Nat) (v : V), X.N[i]? = some y → σ[i]? = some (some v) → Vis X.env.scope y → ∃ u', u = some u' ∧ RelV v u'
def celsOf (X : Cx) (fr : List Str) (h : Heap) : List (Addr × Obj) := fr.filterMap fun y => X.env.cells.lookup y >>= fun c => h.get? c >>= fun o => some (c, o)
section
variable {X : Cx} {pins : List (Addr × Obj)} {σ : L2.St} {H : Hp} {s : Shared} {fr : List Str}
theorem mem_look {α β : Type} [BEq α] [LawfulBEq α] : ∀ {l : List (α × β)} {a : α} {b : β}, l.lookup a = some b → (a, b) ∈ l
  | [], _, _, h => by cases h
  | (x, y) :: l, a, b, h => by
    rw [List.lookup_cons] at h
    cases e : a == x with
    | true =>
      rw [e] at h
      cases h
      rw [eq_of_beq e]
      exact List.mem_cons_self ..
    | false => rw [e] at h; exact List.mem_cons_of_mem _ (mem_look h)
theorem look_mem {α β : Type} [BEq α] [LawfulBEq α] : ∀ {l : List (α × β)} {a : α} {b : β}, (a, b) ∈ l → ∃ b', l.lookup a = some b'
  | (x, y) :: l, a, b, h => by
    rw [List.lookup_cons]
    cases e : a == x with
    | true => exact ⟨y, rfl⟩
    | false =>
      rcases List.mem_cons.mp h with z | z
      · cases z
        rw [beq_self_eq_true] at e
        cases e
      · exact look_mem z
theorem cels_mem {h : Heap} {c : Addr} {o : Obj} (e : (c, o) ∈ celsOf X fr h) : h.get? c = some o ∧ ∃ y ∈ fr, X.env.cells.lookup y = some c := by
  obtain ⟨y, hy, e⟩ := List.mem_filterMap.mp e
  cases q : X.env.cells.lookup y with
  | none => rw [q] at e; cases e
  | some c1 =>
    rw [q] at e
    cases q2 : h.get? c1 with
    | none => simp [q2] at e
    | some o1 =>
      simp [q2] at e
      obtain ⟨rfl, rfl⟩ := e
      exact ⟨q2, y, hy, q⟩
theorem cels_look {h : Heap} {c : Addr} {o : Obj} (e : (celsOf X fr h).lookup c = some o) : h.get? c = some o ∧ ∃ y ∈ fr, X.env.cells.lookup y = some c := cels_mem (mem_look e)
theorem cels_at {h : Heap} {y : Str} {c : Addr} {o : Obj} (hy : y ∈ fr) (q : X.env.cells.lookup y = some c) (q2 : h.get? c = some o) : (celsOf X fr h).lookup c = some o := by
  have : (c, o) ∈ celsOf X fr h := List.mem_filterMap.mpr ⟨y, hy, by simp [q, q2]⟩
  obtain ⟨o', e⟩ := look_mem this
  have := (cels_look e).1
  rw [q2] at this
  cases this
  exact e
theorem laidBy (I : Inv X pins σ H s) (hfr : ∀ y ∈ fr, ∃ c, X.env.cells.lookup y = some c) (hv : ∀ y ∈ fr, X.env.scope.names.lookup y ≠ some .local) : LaidBy X fr σ H (celsOf X fr s.heap) := by
  refine ⟨I.ok.inj, fun c o e => ?_, fun y hy => ?_⟩
  · obtain ⟨_, y, _, q⟩ := cels_look e
    exact I.freeC y c q
  · obtain ⟨c, q⟩ := hfr y hy
    obtain ⟨u, o, ho, hd⟩ := I.cell y c q
    refine ⟨c, o, u, q, cels_at hy q ho, hd, fun i v e1 e2 e3 => ?_⟩
    obtain ⟨m, hn, hl⟩ := I.loc
    obtain ⟨u', r, z⟩ := hl i y v e1 e2 e3
    rcases z with ⟨k, _⟩ | ⟨_, c2, q2, o2, ho2, hd2⟩
    · exact absurd k (hv y hy)
    · rw [q] at q2
      cases q2
      rw [ho] at ho2
      cases ho2
      rw [hd] at hd2
      cases hd2
      exact ⟨u', rfl, r⟩
end
/-- where the cells to be laid lie: apart from the written part and the frames -/
def CelFree (X : Cx) (fr : List Str) : Prop := ∀ (pins : List (Addr × Obj)) (σ : L2.St) (H : Hp) (s : Shared), Inv X pins σ H s → ∀ y ∈ fr, ∀ c, X.env.cells.lookup y = some c → X.base.get? c = none ∧ c ∉ frs X.stack
theorem celFree_of {X : Cx} {fr : List Str} (hfn : ∀ y ∈ fr, X.fn y = true) : CelFree X fr := fun pins σ H s I y hy c q => by
  have hge := I.ok.cab y c (hfn y hy) q
  refine ⟨?_, fun z => ?_⟩
  · cases e : X.base.get? c with
    | none => rfl
    | some o => exact absurd (Nat.lt_of_lt_of_le (Heap.lt_size e) (Nat.le_trans I.ok.bsz hge)) (Nat.lt_irrefl _)
  · rcases List.mem_cons.mp (I.stkSub c z) with e | e
    · exact I.cne y c q e
    · obtain ⟨_, o, ho, _⟩ := I.ok.funs.mem e
      exact absurd (Nat.lt_of_lt_of_le (Heap.lt_size ho) hge) (Nat.lt_irrefl _)
section
variable {X : Cx} {pins : List (Addr × Obj)} {σ : L2.St} {H : Hp} {s : Shared} {fr : List Str} {cs : List (Addr × Obj)}
theorem env0_lay (I : Inv X pins σ H s) (hb : ∀ c o, cs.lookup c = some o → H c = none ∧ X.base.get? c = none ∧ c ∉ frs X.stack) (S : Stand (frs X.stack) cs s.heap) : Env0 X.prog X.w X.K X.mg X.base X.A X.stack s (layH cs H) := by
  have e := I.env0
  refine ⟨e.frames, e.mod, fun b o q => ⟨(e.bs b o q).1, ?_⟩, e.bsz, e.funs, fun b hb' => ?_, hok_lay S (fun c o q => (hb c o q).1) e.hok, e.bare⟩
  · cases q2 : cs.lookup b with
    | none => rw [lay_out q2]; exact (e.bs b o q).2
    | some o2 => rw [(hb b o2 q2).2.1] at q; cases q
  · cases q2 : cs.lookup b with
    | none => rw [lay_out q2]; exact e.frf b hb'
    | some o2 => exact absurd hb' (hb b o2 q2).2.2
theorem stand_cels (I : Inv X pins σ H s) (hf : CelFree X fr) : Stand (frs X.stack) (celsOf X fr s.heap) s.heap := by
  refine ⟨fun c o e => (cels_look e).1, fun c o e => ?_, fun c o e => ?_⟩
  · obtain ⟨ho, y, hy, q⟩ := cels_look e
    obtain ⟨u, o2, ho2, hd⟩ := I.cell y c q
    rw [ho] at ho2
    cases ho2
    exact ⟨u, hd⟩
  · obtain ⟨ho, y, hy, q⟩ := cels_look e
    exact (hf _ _ _ _ I y hy c q).2
end
/-- what leaves a def may be weakened by what the call kept free -/
def CXfree (CXT0 : CXT) : Prop := ∀ {outer : List Env} {H : Hp} {s s' : Shared} {E E' : XK} {e : Value} {cs : List (Addr × Obj)}, (∀ c o, cs.lookup c = some o → H c = none ∧ s.heap.get? c = some o) → (∀ cls d H', (∀ c o, cs.lookup c = some o → H' c = none) → E cls d H' → E' cls d H') → CXT0 outer H s E e s' → CXT0 outer H s E' e s'
theorem cxfree0 : CXfree C8.CX0 := fun _ _ h => h
theorem cxfree {P : Program} {w : World} : CXfree (L2.CX P w) := fun hc k ⟨a, B, H', cls, d, e, fl, hok, ub, na, os, ag, hE⟩ =>
  ⟨a, B, H', cls, d, e, fl, hok, ub, na, os, ag, k cls d H' (fun c o q => ub.free c o (hc c o q).2 (hc c o q).1) hE⟩
def tCallLay (X : Cx) (fr : List Str) (sp : Sp) (E : L2.St → XK) (t : TA) : TE := fun σ H Q => t σ H fun vs H1 => ∀ cs, LaidBy X fr σ H1 cs → sp vs (layH cs H1) (fun v H2 => Q v (unlayH cs H2)) (fun cls d H2 => E σ cls d (unlayH cs H2))
section
variable {X : Cx} {CX : CXT} {k : Nat} {f : Addr} {fd : FuncData} {ps : List Str} {sp : Sp} {E : L2.St → XK} {x : Str} {p pos : Pos} {e : Expr} {es : List Expr} {t : TA} {fr : List Str}
theorem pe_callLay (F : FnOk X.prog X.w X.K X.mg X.base CX k f fd ps sp) (C : CXlay CX X.prog X.w) (Cf : CXfree CX) (hr : Room k X.A) (hg : Gl X x) (hm : X.mg x = some (.ref f)) (hk : PySem.W.keepIn X.K (.ref f) = true) (hb : L2.Binds X.K fd ps []) (hx : ∀ σ, PassesAt CX X σ (E σ))
    (hf : CelFree X fr) (hfr : X.Ok → ∀ y ∈ fr, ∃ c, X.env.cells.lookup y = some c) (hv : ∀ y ∈ fr, X.env.scope.names.lookup y ≠ some .local) (ha : PA X (e :: es) t)
    (hdb : (x == ("__debug__" : Str)) = false := by decide) (he : starEach (e :: es) X.env = (false, eval e X.env) :: starEach es X.env := by rfl) (hpl : (backTo pos (starEach es X.env)).any (·.1) = false := by rfl) :
    PE X (.Call (.Name x p) (e :: es) [] pos) (tCallLay X fr sp E t) := by
  constructor
  intro pins s σ H Q I hq
  apply wpAny_Call_Name_kw
  refine ld_glob I hg hm ?_ hdb
  refine PySem.W.callWith_K (h₀ := X.base) I.ok.mod.kin hk (thn (ha.run pos pins s σ H _ I hq) fun us s1 ⟨vs, H1, I1, r, q⟩ => ⟨I1.kIn, ?_⟩) he hpl
  have LB := laidBy I1 (hfr I1.ok) hv
  have hn : ∀ c o, (celsOf X fr s1.heap).lookup c = some o → H1 c = none ∧ X.base.get? c = none ∧ c ∉ frs X.stack := fun c o e => by
    obtain ⟨_, y, hy, q⟩ := cels_look e
    exact ⟨LB.nn c o e, hf _ _ _ _ I1 y hy c q⟩
  have S := stand_cels I1 hf
  have q := q _ LB
  have hl : us.length = ps.length := by rw [← r.length]; exact F.len _ _ _ _ q
  have b := hb s1 us I1.kIn (by rw [List.append_nil]; exact hl)
  rw [List.append_nil] at b
  have ul : unlayH (celsOf X fr s1.heap) (layH (celsOf X fr s1.heap) H1) = H1 := unlay_lay fun c o e => (hn c o e).1
  refine wpAny_call (codeAny_mono (F.run X.A X.stack s1 (layH (celsOf X fr s1.heap) H1) ⟨us, []⟩ us vs _ _ hr (env0_lay I1 hn S) b r q) fun rr s' hq => ?_)
  have h2 := cr_unlay C S (fun c o e => lay_in e) hq
  rw [ul] at h2
  have bk : ∀ H' : Hp, (∀ c o, (celsOf X fr s1.heap).lookup c = some o → H' c = none) → unlayH (celsOf X fr s1.heap) (layH (celsOf X fr s1.heap) H') = H' := fun H' z => unlay_lay z
  cases rr with
  | error ev =>
    refine hx σ pins H1 s1 ev s' I1 (Cf (cs := celsOf X fr s1.heap) (fun c o e => ⟨(hn c o e).1, (cels_look e).1⟩) (fun cls d H' z w => ?_) h2)
    have w : E σ cls d (unlayH (celsOf X fr s1.heap) (layH (celsOf X fr s1.heap) H')) := w
    rw [bk H' z] at w
    exact w
  | ok fl =>
    cases fl with
    | ret u =>
      obtain ⟨v, H', J, rv, qv⟩ := I1.after h2
      refine ⟨v, H', J, rv, ?_⟩
      have qv : Q v (unlayH (celsOf X fr s1.heap) (layH (celsOf X fr s1.heap) H')) := qv
      rw [bk H' fun c o e => by
        obtain ⟨_, y, hy, qy⟩ := cels_look e
        exact J.freeC y c qy] at qv
      exact qv
    | next => exact False.elim h2
    | brk => exact False.elim h2
    | cont => exact False.elim h2
end
end LamF

/-! functions made by a lambda: called; handed back by a def -/
namespace LamF
open PySem PySem.Spec PyProof.Rows L2 LamX NdefX
/-- the function F stands at f, its captured names fr hold us -/
structure Clos (H : Hp) (f : Addr) (F : LF) (fr : List Str) (us : List V) : Prop where
  at_ : H f = some (FnL f F)
  co : H F.c = some (CodeO F.c F.qual)
  ce : ∀ (i : Nat) (y : Str), fr[i]? = some y → ∃ c o u v, F.cl.lookup y = some c ∧ H c = some (CelO o) ∧ o.data = .cell (some u) ∧ us[i]? = some v ∧ RelV v u
  only : ∀ y c, F.cl.lookup y = some c → y ∈ fr
  inj : ∀ x y c, F.cl.lookup x = some c → F.cl.lookup y = some c → x = y
  ln : us.length = fr.length
theorem Clos.ex {H H' : Hp} {f : Addr} {F : LF} {fr : List Str} {us : List V} (c : Clos H f F fr us) (e : ∀ a o, H a = some o → H' a = some o) : Clos H' f F fr us :=
  ⟨e _ _ c.at_, e _ _ c.co, fun i y h => let ⟨a, o, u, v, h1, h2, h3⟩ := c.ce i y h; ⟨a, o, u, v, h1, e _ _ h2, h3⟩, c.only, c.inj, c.ln⟩
/-- its cells as they stand -/
def celsH (F : LF) (fr : List Str) (H : Hp) : List (Addr × Obj) := fr.filterMap fun y => F.cl.lookup y >>= fun c => match H c with
  | some (.frz o _) => some (c, o)
  | _ => none
section
variable {H : Hp} {f : Addr} {F : LF} {fr : List Str} {us : List V}
theorem Clos.mem (C : Clos H f F fr us) {c : Addr} {o : Obj} (e : (celsH F fr H).lookup c = some o) : H c = some (CelO o) ∧ ∃ (i : Nat) (y : Str), fr[i]? = some y ∧ F.cl.lookup y = some c := by
  obtain ⟨y, hy, e⟩ := List.mem_filterMap.mp (mem_look e)
  obtain ⟨i, hi⟩ := List.getElem?_of_mem hy
  obtain ⟨c1, o1, u, v, h1, h2, h3⟩ := C.ce i y hi
  rw [h1] at e
  simp only [Option.bind_eq_bind, Option.bind_some] at e
  rw [h2] at e
  cases e
  exact ⟨h2, i, y, hi, h1⟩
theorem Clos.look (C : Clos H f F fr us) {i : Nat} {y : Str} {c : Addr} {o : Obj} (hi : fr[i]? = some y) (h1 : F.cl.lookup y = some c) (h2 : H c = some (CelO o)) : (celsH F fr H).lookup c = some o := by
  have : (c, o) ∈ celsH F fr H := List.mem_filterMap.mpr ⟨y, List.mem_of_getElem? hi, by
    rw [h1]
    simp only [Option.bind_eq_bind, Option.bind_some]
    rw [h2]
    rfl⟩
  obtain ⟨o', e⟩ := look_mem this
  have := (C.mem e).1
  rw [h2] at this
  cases this
  exact e
end
/-- a thing that can be called: what its call promises -/
def CalOk (P : Program) (w : World) (K : PySem.W.Frag) (mg : Str → Option Value) (base : Heap) (CX : CXT) (k : Nat) (f : Addr) (sp : Sp) : Prop :=
  ∀ (A : Around) (outer : List Env) (s : Shared) (H : Hp) (us : List Value) (vs : List V) (Q : VK) (E : XK), Room k A → Env0 P w K mg base A outer s H → Vals vs us → sp vs H Q E → codeAny (model P w) A (.call (.ref f) ⟨us, []⟩) (CR CX outer P w H s Q E) s
theorem CalOk.mono {P : Program} {w : World} {K : PySem.W.Frag} {mg : Str → Option Value} {base : Heap} {CX : CXT} {j k : Nat} {f : Addr} {sp : Sp} (h : CalOk P w K mg base CX j f sp) (hjk : j ≤ k) : CalOk P w K mg base CX k f sp :=
  fun A outer s H us vs Q E hr => h A outer s H us vs Q E (hr.mono hjk)
theorem CalOk.imp {P : Program} {w : World} {K : PySem.W.Frag} {mg : Str → Option Value} {base : Heap} {CX : CXT} {k : Nat} {f : Addr} {sp sp' : Sp} (h : CalOk P w K mg base CX k f sp) (i : ∀ vs H Q E, sp' vs H Q E → sp vs H Q E) : CalOk P w K mg base CX k f sp' :=
  fun A outer s H us vs Q E hr e0 r q => h A outer s H us vs Q E hr e0 r (i _ _ _ _ q)
/-- an exception of the body's call leaves the function -/
def NcxP (CX : CXT) (P : Program) (w : World) (K : PySem.W.Frag) (mg : Str → Option Value) (base : Heap) (N : List Str) (F : NF) : Prop := ∀ (f : Addr) (A : Around) (outer : List Env) (s : Shared) (H : Hp) (E : XK), Passes CX (ncx CX P w K mg base N F f A outer s H E) E
theorem ncxP0 {P : Program} {w : World} {K : PySem.W.Frag} {mg : Str → Option Value} {base : Heap} {N : List Str} {F : NF} : NcxP C8.CX0 P w K mg base N F := fun _ _ _ _ _ _ _ _ _ _ _ _ _ h => False.elim h
theorem ncxP {P : Program} {w : World} {K : PySem.W.Frag} {mg : Str → Option Value} {base : Heap} {N : List Str} {F : NF} : NcxP (L2.CX P w) P w K mg base N F := fun f A outer s H E =>
  passes_call (X := ncx (L2.CX P w) P w K mg base N F f A outer s H E) (takes_of rfl rfl rfl rfl) (fun _ _ _ _ h => h)
def tVars : List Nat → TA
  | [] => tNil
  | j :: js => tCons (tVar j) (tVars js)
theorem tVars_ok {σ : L2.St} {H : Hp} : ∀ {js : List Nat} {vs : List V} {Q : List V → Hp → Prop}, Paired (fun (j : Nat) (v : V) => σ[j]? = some (some v)) js vs → Q vs H → tVars js σ H Q
  | [], _, Q, .nil, h => h
  | j :: js, v :: vs, Q, .cons h t, q => ⟨v, h, tVars_ok (Q := fun vs H2 => Q (v :: vs) H2) t q⟩
section
variable {CX : CXT} {P : Program} {w : World} {K : PySem.W.Frag} {mg : Str → Option Value} {base : Heap} {N ps fr psg : List Str} {F : LF} {f g : Addr} {fdg : FuncData} {k : Nat} {spg : Sp} {x : Str} {e : Expr} {es : List Expr} {p0 pos : Pos} {js : List Nat} {us : List V}
/-- lambda ps: x(..), its arguments names -/
theorem run_cloC (C : CXlay CX P w) (hp : NcxP CX P w K mg base N F.nf) (S : NScope N ps fr F.scope) (hbody : F.body = .Call (.Name x p0) (e :: es) [] pos) (hbind : ∀ (pm ctv : Value) (us : List Value), us.length = ps.length → bindArgs (PySem.W.kla_fn "<lambda>" F.qual F.params F.body F.scope F.cl pm (.ref F.c) ctv) ⟨us, []⟩ = pure (ps.zip us))
    (G : FnOk P w K mg base CX k g fdg psg spg) (bg : L2.Binds K fdg psg []) (hmg : mg x = some (.ref g)) (hkg : PySem.W.keepIn K (.ref g) = true) (hgl : F.scope.names.lookup x = some .globalImplicit)
    (ha : ∀ (A : Around) (outer : List Env) (s : Shared) (H : Hp) (E : XK), PA (ncx CX P w K mg base N F.nf f A outer s H E) (e :: es) (tVars js)) (hdb : (x == ("__debug__" : Str)) = false)
    (he : ∀ L : Addr, starEach (e :: es) (envF F.nf f L) = (false, eval e (envF F.nf f L)) :: starEach es (envF F.nf f L)) (hpl : ∀ L : Addr, (backTo pos (starEach es (envF F.nf f L))).any (·.1) = false)
    {G0 : Hp} (cl : Clos G0 f F fr us) {ws : List V → List V} (hws : ∀ vs : List V, vs.length = ps.length → Paired (fun (j : Nat) (v : V) => (startF N vs (us.map some))[j]? = some (some v)) js (ws vs)) :
    CalOk P w K mg base CX (k + 1) f fun vs H Q E => vs.length = ps.length ∧ (∀ a o, G0 a = some o → H a = some o) ∧ spg (ws vs) H Q E := by
  intro A outer s H vals vs Q E hr e0 r hq
  obtain ⟨hl, ex, q⟩ := hq
  have cl := cl.ex ex
  have hl0 : ∀ c o, (celsH F fr H).lookup c = some o → H c = some (CelO o) := fun c o e => (cl.mem e).1
  have eL : layH (celsH F fr H) (unlayH (celsH F fr H) H) = H := lay_unlay hl0
  have hn0 : ∀ c o, (celsH F fr H).lookup c = some o → unlayH (celsH F fr H) H c = none := fun c o e => unlay_in e
  have at0 : ∀ c o, (celsH F fr H).lookup c = some o → s.heap.get? c = some o := fun c o e => (e0.hok c _ (hl0 c o e)).1
  have nfr : ∀ c o, (celsH F fr H).lookup c = some o → c ∉ frs outer := fun c o e z => by
    have := e0.frf c z
    rw [hl0 c o e] at this
    cases this
  have S0 : Stand (frs outer) (celsH F fr H) s.heap := ⟨at0, fun c o e => by
    obtain ⟨_, i, y, hi, q⟩ := cl.mem e
    obtain ⟨c1, o1, u, v, h1, h2, h3, _⟩ := cl.ce i y hi
    rw [q] at h1
    cases h1
    rw [hl0 c o e] at h2
    cases h2
    exact ⟨_, h3⟩, nfr⟩
  have env0 : Env0 P w K mg base A outer s (unlayH (celsH F fr H) H) := by
    have dn : ∀ b, H b = none → unlayH (celsH F fr H) H b = none := fun b z => by
      cases q : (celsH F fr H).lookup b with
      | none => rw [unlay_out q]; exact z
      | some o => exact unlay_in q
    exact ⟨e0.frames, e0.mod, fun b o z => ⟨(e0.bs b o z).1, dn b (e0.bs b o z).2⟩, e0.bsz, e0.funs, fun b z => dn b (e0.frf b z), hok_unlay hl0 e0.hok, e0.bare⟩
  have CA : CellsAt F.cl fr (us.map some) s.heap (unlayH (celsH F fr H) H) := by
    refine ⟨by rw [List.length_map]; exact cl.ln, fun y c q => ?_, cl.inj, fun i y hi => ?_⟩
    · obtain ⟨i, hi⟩ := List.getElem?_of_mem (cl.only y c q)
      obtain ⟨c1, o1, u, v, h1, h2, h3, _⟩ := cl.ce i y hi
      rw [q] at h1
      cases h1
      have lk := cl.look hi q h2
      exact ⟨hn0 _ _ lk, _, o1, at0 _ _ lk, h3⟩
    · obtain ⟨c1, o1, u, v, h1, h2, h3, h4, h5⟩ := cl.ce i y hi
      refine ⟨c1, h1, fun v' hv' => ?_⟩
      rw [List.getElem?_map, h4] at hv'
      cases hv'
      exact ⟨u, h5, o1, at0 _ _ (cl.look hi h1 h2), h3⟩
  have lim : s.heap.NoLimit := e0.mod.nolimit.keeps fun b o e => (e0.bs b o e).1
  obtain ⟨⟨pm, ctv, ho⟩, _, _⟩ := e0.hok f _ cl.at_
  obtain ⟨⟨oc, cvs, tt, hoc, hdc, hvc⟩, _, _⟩ := e0.hok F.c _ cl.co
  apply PySem.W.kla_callFunE hr.depth ho rfl S.co S.gen rfl ⟨F.c, oc, cvs, tt, rfl, hoc, hdc, hvc⟩
  rw [hbind pm ctv vals (by rw [← r.length]; exact hl)]
  refine wpAny_pure (wpAny_newFunctionEnv S.nocell (fun ⟨n, _⟩ hy => S.par n (List.of_mem_zip hy).1) (fun h₁ hns hsb => ⟨lim.fresh _ hsb, ?_⟩) S.kind)
  show codeAny _ _ (.expr F.body (envF F.nf f s.heap.objs.size)) _ _
  have kp : ∀ b o, s.heap.get? b = some o → h₁.get? b = some o := fun b o e => hsb.extBut b o (Nat.ne_of_lt (Heap.lt_size e)) (Heap.get?_push_of_some _ e)
  have I := inv_startN (CX := CX) (E := fun c d H' => E c d (layH (celsH F fr H) H')) (f := f) (F := F.nf) (tk := s.toks + (ps.zip vals).length) S hr.hd env0 hl r CA hns kp
  apply PySem.W.kla_codeExpr
  rw [hbody]
  refine wpAny_mono (E := (ncx CX P w K mg base N F.nf f A outer s (unlayH (celsH F fr H) H) (fun c d H' => E c d (layH (celsH F fr H) H'))).xe) ?_ (fun _ _ z => z) (fun ev s' h3 => ?_)
  case refine_2 =>
    refine wpAny_mono h3 (fun _ s'' z => ?_) fun _ s'' z => ?_
    · have := C.ly S0 hn0 z
      rw [eL] at this
      exact this
    · have := C.ly S0 hn0 z
      rw [eL] at this
      exact this
  apply wpAny_Call_Name_kw
  refine ld_glob I hgl hmg ?_ hdb
  refine PySem.W.callWith_K (h₀ := base) I.ok.mod.kin hkg (thn ((ha A outer s (unlayH (celsH F fr H) H) (fun c d H' => E c d (layH (celsH F fr H) H'))).run pos [] _ _ _ (fun vs2 H2 => vs2 = ws vs ∧ H2 = unlayH (celsH F fr H) H) I (tVars_ok (hws vs hl) ⟨rfl, rfl⟩)) fun us2 s2 ⟨vs2, H2, I2, r2, q2⟩ => ⟨I2.kIn, ?_⟩) (he _) (hpl _)
  obtain ⟨rfl, rfl⟩ := q2
  have nst : ∀ c o, (celsH F fr H).lookup c = some o → c ∉ frs (envF F.nf f s.heap.objs.size :: outer) := fun c o e z => by
    rcases List.mem_cons.mp (I2.stkSub c z) with z | z
    · have := Heap.lt_size (at0 c o e)
      rw [z] at this
      exact Nat.lt_irrefl _ this
    · exact nfr c o e z
  have at2 : ∀ c o, (celsH F fr H).lookup c = some o → s2.heap.get? c = some o := fun c o e => I2.base.keep c o (at0 c o e) (hn0 c o e) (nfr c o e) (fun z => nomatch (show c ∈ ([] : List Addr) from z))
  have S2 : Stand (frs (envF F.nf f s.heap.objs.size :: outer)) (celsH F fr H) s2.heap := ⟨at2, S0.cel, nst⟩
  have e2 : Env0 P w K mg base (A.deeper (envF F.nf f s.heap.objs.size)) (envF F.nf f s.heap.objs.size :: outer) s2 H := by
    have z := env0_lay (cs := celsH F fr H) I2 (fun c o e => ⟨hn0 c o e, ?_, nst c o e⟩) S2
    · rw [eL] at z
      exact z
    · cases qb : base.get? c with
      | none => exact qb
      | some ob =>
        have := (e0.bs c ob qb).2
        rw [hl0 c o e] at this
        cases this
  have hl2 : us2.length = psg.length := by rw [← r2.length]; exact G.len _ _ _ _ q
  have b := bg s2 us2 I2.kIn (by rw [List.append_nil]; exact hl2)
  rw [List.append_nil] at b
  refine wpAny_call (codeAny_mono (G.run _ _ s2 H ⟨us2, []⟩ us2 (ws vs) Q E (hr.deeper _) e2 b r2 q) fun rr s' hq => ?_)
  have h2 := cr_unlay C S2 hl0 hq
  cases rr with
  | error ev =>
    exact hp f A outer s (unlayH (celsH F fr H) H) (fun c d H' => E c d (layH (celsH F fr H) H')) [] _ _ s2 ev s' I2 h2
  | ok fl =>
    cases fl with
    | ret u =>
      obtain ⟨v, H', J, rv, qv⟩ := I2.after h2
      have ce : CE outer P w (unlayH (celsH F fr H) H) s (fun v H' => Q v (layH (celsH F fr H) H')) u s' := ⟨v, H', J.os, J.bare, J.base, J.hok, rv, qv⟩
      have := ce_lay S0 hn0 ce
      rw [eL] at this
      exact this
    | next => exact False.elim h2
    | brk => exact False.elim h2
    | cont => exact False.elim h2
end
/-! ### x(..), x a local name that holds something that can be called -/
/-- an instance, or a function that a lambda made -/
def Cb (H : Hp) (f : Addr) : Prop := (∃ F, H f = some (FnL f F)) ∨ ∃ C dx fs, H f = some (.ins C dx fs)
/-- it stands as before -/
def Cb2 (H H1 : Hp) (f : Addr) : Prop := (∀ F, H f = some (FnL f F) → H1 f = some (FnL f F)) ∧ ∀ C dx fs, H f = some (.ins C dx fs) → ∃ gs, H1 f = some (.ins C dx gs)
theorem Cb2.of {H H1 : Hp} {f : Addr} (e : ∀ o, H f = some o → H1 f = some o) : Cb2 H H1 f := ⟨fun F h => e _ h, fun C dx fs h => ⟨fs, e _ h⟩⟩
def tCallV (X : Cx) (CX : CXT) (k i : Nat) (E : L2.St → XK) (t : TA) : TE := fun σ H Q => ∃ f, σ[i]? = some (some (.ref f)) ∧ Cb H f ∧ t σ H fun vs H1 => Cb2 H H1 f ∧ ∃ sp, CalOk X.prog X.w X.K X.mg X.base CX k f sp ∧ sp vs H1 Q (E σ)
section
variable {X : Cx} {CX : CXT} {k i : Nat} {E : L2.St → XK} {x : Str} {p pos : Pos} {e : Expr} {es : List Expr} {t : TA}
theorem pe_callV (hN : X.N[i]? = some x) (hv : Vis X.env.scope x) (hr : Room k X.A) (hx : ∀ σ, PassesAt CX X σ (E σ)) (ha : PA X (e :: es) t) (hdb : (x == ("__debug__" : Str)) = false := by decide) (hcd : (x == ("__classdict__" : Str)) = false := by decide)
    (he : starEach (e :: es) X.env = (false, eval e X.env) :: starEach es X.env := by rfl) (hpl : (backTo pos (starEach es X.env)).any (·.1) = false := by rfl) : PE X (.Call (.Name x p) (e :: es) [] pos) (tCallV X CX k i E t) := by
  constructor
  intro pins s σ H Q I hq
  obtain ⟨f, hs, hc, ht⟩ := hq
  apply wpAny_Call_Name_kw
  refine thn ((pe_var (pos := p) hN hv hdb hcd).run pins s σ H (fun v H1 => v = .ref f ∧ H1 = H) I ⟨.ref f, hs, rfl, rfl⟩) fun u s1 ⟨v, H1, I1, r1, q1⟩ => ?_
  obtain ⟨rfl, rfl⟩ := q1
  cases r1
  have tail : ∀ us s2 vs H2, Inv X pins σ H2 s2 → Vals vs us → (∃ sp, CalOk X.prog X.w X.K X.mg X.base CX k f sp ∧ sp vs H2 Q (E σ)) → wpAny (model X.prog X.w) X.A (call (.ref f) us) (EP X pins σ Q) X.xe s2 := fun us s2 vs H2 I2 r ⟨sp, ok, q⟩ => by
    refine wpAny_call (codeAny_mono (ok X.A X.stack s2 H2 us vs Q (E σ) hr I2.env0 r q) fun rr s' hq => ?_)
    cases rr with
    | error ev => exact hx σ pins H2 s2 ev s' I2 hq
    | ok fl =>
      cases fl with
      | ret u => exact I2.after hq
      | next => exact False.elim hq
      | brk => exact False.elim hq
      | cont => exact False.elim hq
  rcases hc with ⟨F, hF⟩ | ⟨C, dx, fs, hF⟩
  · obtain ⟨⟨pm, ctv, ho⟩, _, _⟩ := I1.hok f _ hF
    refine PySem.W.callWith_F (first := []) ⟨_, _, _, _, ho⟩ (thn (ha.run pos pins s1 σ _ _ I1 ht) fun us s2 ⟨vs, H2, I2, r, hc2, q⟩ => ⟨?_, tail us s2 vs H2 I2 r q⟩) he hpl
    obtain ⟨⟨pm, ctv, ho⟩, _, _⟩ := I2.hok f _ (hc2.1 F hF)
    exact ⟨_, _, _, _, ho⟩
  · refine PySem.W.kcoX_callWith (ox := PySem.W.instObj C dx) (C := C) rfl (thn (ha.run pos pins s1 σ _ _ I1 ht) fun us s2 ⟨vs, H2, I2, r, hc2, q⟩ => ⟨?_, tail us s2 vs H2 I2 r q⟩) he hpl
    obtain ⟨gs, ga⟩ := hc2.2 C dx fs hF
    obtain ⟨mA, J, _⟩ := ins_get I2.hok ga
    obtain ⟨od, J, _⟩ := J.look
    exact ⟨od, J⟩
/-- an instance of a class with a __call__ -/
theorem calOk_ins {f0 a C : Addr} {fd : FuncData} {ps : List Str} {spf : Sp} {P : Program} {w : World} {K : PySem.W.Frag} {mg : Str → Option Value} {base : Heap} (M : Meth K C "__call__" f0) (hfn : PySem.W.fnIn K f0 = true) (F : FnOk P w K mg base CX k f0 fd ps spf) (hb : L2.Binds K fd ps []) :
    CalOk P w K mg base CX k a fun vs H Q E => (∃ dx fs, H a = some (.ins C dx fs)) ∧ spf (.ref a :: vs) H Q E := by
  intro A outer s H us vs Q E hr e0 r hq
  obtain ⟨⟨dx, gs, ga⟩, q⟩ := hq
  have kin : K.In s.heap := e0.mod.kin.keeps fun b o e => (e0.bs b o e).1
  obtain ⟨mA, J, _⟩ := ins_get e0.hok ga
  obtain ⟨od, J, _⟩ := J.look
  have r' : Vals (.ref a :: vs) (.ref a :: us) := .cons rfl r
  have hl : (Value.ref a :: us).length = ps.length := by rw [← r'.length]; exact F.len _ _ _ _ q
  have b := hb s (.ref a :: us) kin (by rw [List.append_nil]; exact hl)
  rw [List.append_nil] at b
  exact PySem.W.kco_code (K := K) (C := C) (f := f0) kin J rfl M.at_ M.fn hfn (codeAny_mono (F.run A outer s H ⟨.ref a :: us, []⟩ (.ref a :: us) (.ref a :: vs) Q E hr e0 b r' q) fun _ _ z => z)
end
end LamF

/-! a def that hands back a lambda; defs whose code object is told -/
namespace LamF
open PySem PySem.Spec PyProof.Rows L2 LamX NdefX
/-- the code object of the def at f, its table -/
def codOf (K : PySem.W.Frag) (f : Addr) : Addr := match K.lookup f with
  | some ⟨_, _, .func fd, _⟩ => (match fd.code with
    | .ref c => c
    | _ => 0)
  | _ => 0
def tabOf (K : PySem.W.Frag) (f : Addr) : Addr := match K.lookup (codOf K f) with
  | some ⟨_, _, .fields vs, _⟩ => (match (vs[11]? : Option Value) with
    | some (.ref P) => P
    | _ => 0)
  | _ => 0
theorem cod_eq {K : PySem.W.Frag} {f : Addr} {oc : Value} {od : Option Addr} {osl : Array (Option Value)} {fd : FuncData} {q : Str} (lk : K.lookup f = some ⟨oc, od, .func fd, osl⟩) (hcd : PySem.W.codeIn K fd.code q = true) : fd.code = .ref (codOf K f) := by
  unfold codOf
  rw [lk]
  show fd.code = .ref (match fd.code with
    | .ref c => c
    | _ => 0)
  generalize fd.code = cv at hcd ⊢
  cases cv with
  | ref c => rfl
  | _ => unfold PySem.W.codeIn at hcd; cases hcd
section
variable {P : Program} {w : World} {K : PySem.W.Frag} {mg : Str → Option Value} {base : Heap} {x qual : Str} {params : Arguments} {body : List Stmt} {scope : Scope} {f : Addr} {fd : FuncData} {CX : CXT} {N ps : List Str} {k : Nat} {sp : Sp}
theorem okC (F : FunD K x qual params body scope [] [] f fd) (S : FnScope N ps scope) (len : ∀ vs H Q E, sp vs H Q E → vs.length = ps.length)
    (hbody : ∀ (A : Around) (outer : List Env) (s : Shared) (H : Hp) (vs : List V) (Q : VK) (E : XK), Room k (A.deeper (envOfC qual scope s.heap.objs.size f (.ref (codOf K f)))) → sp vs H Q E →
      ∃ t, PSs (cxOf CX P w K mg base N qual scope f (.ref (codOf K f)) A outer s H E) body t ∧ t { nx := fun _ H' => Q .non H', rt := Q } (L2.start N vs) H) : FnOk P w K mg base CX (k + 1) f fd ps sp := by
  obtain ⟨oc, od, dV, kV, doc, pm, an, cdv, ct, osl, rfl, lk, hcd, _, _⟩ := F.ex
  have e := cod_eq lk hcd
  have e : cdv = .ref (codOf K f) := e
  refine fn_of lk hcd S len ?_
  rw [e]
  exact hbody
/-- what such a def promises: the function made, its captured names' values -/
structure LmC (H H1 : Hp) (P fl : Addr) (F : LF) (ps0 ps : Array Value) : Prop where
  nf : H fl = none
  src : H F.c = none ∨ ∃ pos, codeAmong pos ps0.toList = some (.ref F.c)
  old : ∀ (pos : Pos) (cv : Value), codeAmong pos ps.toList = some cv → codeAmong pos ps0.toList = some cv ∨ cv = .ref F.c
  tb : H1 P = some (.tbl ps)
  cd : Cds H1 F.qual ps
  ex : ∀ b o, b ≠ P → H b = some o → H1 b = some o
  ceN : ∀ y c, F.cl.lookup y = some c → H c = none
def spLam (Pt : Addr) (q : Str) (lp : Arguments) (lb : Expr) (lsc : Scope) (fr ps : List Str) (ws : List V → List V) : Sp := fun vs H Q _ => vs.length = ps.length ∧ ∃ pst, H Pt = some (.tbl pst) ∧ Cds H q pst ∧
  ∀ fl F H1 pst', F.qual = q → F.params = lp → F.body = lb → F.scope = lsc → LmC H H1 Pt fl F pst pst' → Clos H1 fl F fr (ws vs) → Q (.ref fl) H1
theorem clo_look {cells : List (Str × Addr)} {names : List (Str × NameKind)} {y : Str} {c : Addr} (hy : (y, NameKind.free) ∈ names) (hc : cells.lookup y = some c) : (cloFrom cells names []).lookup y = some c := by
  obtain ⟨c', e⟩ := L2.mem_lookup (cloFrom_has (cells := cells) (acc := []) hy)
  rcases cloFrom_mem (PySem.mem_of_lookup e) with z | ⟨_, z⟩
  · cases z
  · rw [hc] at z
    have z : c' = c := z
    rw [e, z]
theorem clo_sub {cells : List (Str × Addr)} {names : List (Str × NameKind)} {y : Str} {c : Addr} (e : (cloFrom cells names []).lookup y = some c) (h : ∀ y, (y, NameKind.free) ∈ names → ∃ c, cells.lookup y = some c) : (y, NameKind.free) ∈ names ∧ cells.lookup y = some c := by
  rcases cloFrom_mem (PySem.mem_of_lookup e) with z | ⟨z1, z2⟩
  · cases z
  · obtain ⟨c1, e1⟩ := h y z1
    rw [e1] at z2
    have z2 : c = c1 := z2
    rw [z2]
    exact ⟨z1, e1⟩
theorem fn_lam {lp : Arguments} {lb : Expr} {lsc : Scope} {lpos rpos : Pos} {fr : List Str} {Pt : Addr} {ws : List V → List V} (F : FunD K x qual params [.Return (some (.Lambda lp lb lsc lpos)) rpos] scope [] [] f fd) (S : FnScope N ps scope) (TB : TabB base mg (codOf K f) Pt)
    (hdef : ∀ env : Env, defaultsOf lp env = ([], [])) (hfr : ∀ y, (y, NameKind.free) ∈ lsc.names → y ∈ fr) (hfr2 : ∀ y ∈ fr, (y, NameKind.free) ∈ lsc.names ∧ scope.names.lookup y = some .cell) (hl : ∀ vs : List V, vs.length = ps.length → (ws vs).length = fr.length)
    (hws : ∀ (vs : List V), vs.length = ps.length → ∀ (i : Nat) (y : Str), fr[i]? = some y → ∃ (j : Nat) (v : V), ps[j]? = some y ∧ vs[j]? = some v ∧ (ws vs)[i]? = some v) :
    FnOk P w K mg base CX (k + 1) f fd ps (spLam Pt ((envOfC qual scope 0 f (.ref (codOf K f))).qual ++ "<lambda>") lp lb lsc fr ps ws) := by
  obtain ⟨oc, od, dV, kV, doc, pm, an, cdv, ct, osl, rfl, lk, hcd, _, _⟩ := F.ex
  obtain rfl : cdv = .ref (codOf K f) := cod_eq lk hcd
  refine ⟨fun _ _ _ _ h => h.1, fun A outer s H args us vs Q E hr e0 hb r hsp => ?_⟩
  obtain ⟨hlen, pst, hP, hC, fin⟩ := hsp
  have KX : K.In s.heap := e0.mod.kin.keeps fun b o e => (e0.bs b o e).1
  have lim : s.heap.NoLimit := e0.mod.nolimit.keeps fun b o e => (e0.bs b o e).1
  refine codeAny_call_function hr.depth (KX _ _ lk) rfl S.co S.gen rfl (PySem.W.codeRec_of KX hcd) (hb _ _ _ _ ?_)
  refine wpAny_newFunctionEnv_cells S.kind (fun ⟨n, v⟩ hy => (S.par n (List.of_mem_zip hy).1).elim (fun q => .inl q) fun q => .inr ⟨q, PySem.W.cellsFrom_some _ _ _ (.inl q)⟩) fun env he s1 x => ?_
  subst he
  refine ⟨lim.keeps x.toInCall.keep, codeAny_func ?_⟩
  have I : Inv (cxOf CX P w K mg base N qual scope f (.ref (codOf K f)) A outer s H E) [] (L2.start N vs) H s1 := inv_start S hr.hd e0 hlen r x
  have hcells : ∀ y ∈ fr, ∃ c, (cxOf CX P w K mg base N qual scope f (.ref (codOf K f)) A outer s H E).env.cells.lookup y = some c := fun y hy => I.ok.has y (.inl (hfr2 y hy).2)
  have hnm : ∀ y, (y, NameKind.free) ∈ lsc.names → ∃ c, (cxOf CX P w K mg base N qual scope f (.ref (codOf K f)) A outer s H E).env.cells.lookup y = some c := fun y hy => hcells y (hfr y hy)
  have pl := pe_lam (X := cxOf CX P w K mg base N qual scope f (.ref (codOf K f)) A outer s H E) (body := lb) (pos := lpos) TB rfl (hdef _) (scope := lsc) (fun _ y hy e => hnm y.1 (by rw [← e]; exact hy))
  refine wpAny_execs_cons (wpAny_Return_some (thn (pl.run [] s1 _ H (fun v H1 => ∃ fl c' ps', v = .ref fl ∧ Lm H H1 Pt fl ⟨(envOfC qual scope 0 f (.ref (codOf K f))).qual ++ "<lambda>", lp, lb, lsc, cloFrom (cxOf CX P w K mg base N qual scope f (.ref (codOf K f)) A outer s H E).env.cells lsc.names [], c'⟩ pst ps') I ⟨pst, hP, hC, fun fl c' ps' H1 lm => ⟨fl, c', ps', rfl, lm⟩⟩) fun u s' ⟨v, H1, J, rv, fl, c', ps', ev, lm⟩ => ?_))
  subst ev
  have hcf : CelFree (cxOf CX P w K mg base N qual scope f (.ref (codOf K f)) A outer s H E) fr := celFree_of fun _ _ => rfl
  have St := stand_cels J hcf
  have LB := laidBy J hcells (fun y hy z => by
    have z : scope.names.lookup y = some .local := z
    rw [(hfr2 y hy).2] at z
    cases z)
  have nn := LB.nn
  have cge : ∀ y c, (cxOf CX P w K mg base N qual scope f (.ref (codOf K f)) A outer s H E).env.cells.lookup y = some c → s.heap.objs.size ≤ c := fun y c q => J.ok.cab y c rfl q
  have upE : ∀ b o, H1 b = some o → layH (celsOf (cxOf CX P w K mg base N qual scope f (.ref (codOf K f)) A outer s H E) fr s'.heap) H1 b = some o := fun b o e => lay_ex nn e
  refine ⟨.ref fl, layH (celsOf (cxOf CX P w K mg base N qual scope f (.ref (codOf K f)) A outer s H E) fr s'.heap) H1, J.os, J.bare, ⟨J.base.keep, J.base.slot, fun b o e n hx => ?_, J.base.there, fun b xs e => upE _ _ (J.base.tups b xs e), fun b o v e => upE _ _ (J.base.frzs b o v e), fun b qs e => ?_⟩, hok_lay St nn J.hok, rv, ?_⟩
  · cases q : (celsOf (cxOf CX P w K mg base N qual scope f (.ref (codOf K f)) A outer s H E) fr s'.heap).lookup b with
    | none => rw [lay_out q]; exact J.base.free b o e n hx
    | some o2 =>
      obtain ⟨_, y, _, q2⟩ := cels_look q
      exact absurd (Nat.lt_of_lt_of_le (Heap.lt_size e) (cge y b q2)) (Nat.lt_irrefl _)
  · obtain ⟨more, z⟩ := J.base.tbls b qs e
    exact ⟨more, upE _ _ z⟩
  · refine fin fl ⟨(envOfC qual scope 0 f (.ref (codOf K f))).qual ++ "<lambda>", lp, lb, lsc, cloFrom (cxOf CX P w K mg base N qual scope f (.ref (codOf K f)) A outer s H E).env.cells lsc.names [], c'⟩ _ ps' rfl rfl rfl rfl ⟨lm.nf, lm.src, lm.old, upE _ _ lm.tb, ⟨lm.cd.ok, fun p cv e => ?_⟩, fun b o hb e => upE _ _ (lm.ex b o hb e), fun y c e => ?_⟩ ⟨upE _ _ lm.at_, upE _ _ lm.co, fun i y hi => ?_, fun y c e => hfr y (clo_sub e hnm).1, fun a b c e1 e2 => J.ok.inj a b c (clo_sub e1 hnm).2 (clo_sub e2 hnm).2, hl vs hlen⟩
    · obtain ⟨c0, e1, e2⟩ := lm.cd.cd p cv e
      exact ⟨c0, e1, upE _ _ e2⟩
    · exact e0.hok.fresh (cge y c (clo_sub e hnm).2)
    · have hy := List.mem_of_getElem? hi
      obtain ⟨c, o, u, q, lk2, hd, hv⟩ := LB.at_ y hy
      obtain ⟨j, v, hj, hvj, hw⟩ := hws vs hlen i y hi
      have hN : N[j]? = some y := by
        have hjl : j < ps.length := (List.getElem?_eq_some_iff.mp hj).1
        rw [← S.pre, List.getElem?_take_of_lt hjl] at hj
        exact hj
      have hs : (L2.start N vs)[j]? = some (some v) := by
        unfold L2.start
        have hjl : j < vs.length := (List.getElem?_eq_some_iff.mp hvj).1
        rw [List.getElem?_append_left (by simpa using hjl), List.getElem?_map, hvj]
        rfl
      obtain ⟨u', rfl, rv'⟩ := hv j v hN hs (.inr (.inl (hfr2 y hy).2))
      exact ⟨c, o, u', v, clo_look (hfr2 y hy).1 q, lay_in lk2, hd, hw, rv'⟩
end
end LamF

/-! things that are asked: functions and objects called with a name; what they change is a state -/
namespace Sim
open PySem PySem.Spec PyProof.Rows L2 Evl LamX LamF NdefX
theorem Cds.mono {G G' : Hp} {q : Str} {ps : Array Value} (e : Ex G G') (c : Cds G q ps) : Cds G' q ps := ⟨c.ok, fun p cv h => let ⟨a, h1, h2⟩ := c.cd p cv h; ⟨a, h1, e _ _ h2⟩⟩
/-- the table of a def's code object, as a cell -/
def cTab (q : Str) : CP := ⟨fun G o => ∃ ps, o = .tbl ps ∧ Cds G q ps, fun e ⟨ps, h1, h2⟩ => ⟨ps, h1, Cds.mono e h2⟩⟩
/-- a function that a lambda made, told by what it captured -/
def rClo {ι : Type} (q : Str) (lp : Arguments) (lb : Expr) (lsc : Scope) (fr : List Str) (A : AR ι) : Rep ι := ⟨fun H v i => ∃ f F us, v = .ref f ∧ F.qual = q ∧ F.params = lp ∧ F.body = lb ∧ F.scope = lsc ∧ Clos H f F fr us ∧ A.r H us i,
  fun {_ _ _ _} e h => by
    obtain ⟨f, F, us, h1, h2, h3, h4, h5, h6, h7⟩ := h
    exact ⟨f, F, us, h1, h2, h3, h4, h5, h6.ex e, A.mono e h7⟩⟩
/-! ### asked -/
section
variable (P : Program) (w : World) (K : PySem.W.Frag) (mg : Str → Option Value) (base : Heap) (k : Nat)
/-- what asking promises: never raises / may raise -/
def PAsk {κ : Type} (ci : κ → Cs) (ask : κ → Str → Option (Int × κ)) (G0 : Hp) : Sp := fun vs H Q _ => ∃ G s nm x s', vs = [.str nm] ∧ Ex G0 G ∧ Wd G H (ci s) ∧ ask s nm = some (x, s') ∧ ∀ H2 G2, Fr G H G2 H2 ((ci s).map (·.1)) → Wd G2 H2 (ci s') → Q (.int x) H2
def PAskX {κ : Type} (ci : κ → Cs) (ask : κ → Str → Option ((Xn ⊕ Int) × κ)) (G0 : Hp) : Sp := fun vs H Q E => ∃ G s nm r s', vs = [.str nm] ∧ Ex G0 G ∧ Wd G H (ci s) ∧ ask s nm = some (r, s') ∧
  (∀ e, r = .inl e → ∀ d H2 G2, Fr G H G2 H2 ((ci s).map (·.1)) → Wd G2 H2 (ci s') → Xat G2 e d → E (.ref (He.ga K e.cls)) (some d) H2) ∧ ∀ x, r = .inr x → ∀ H2 G2, Fr G H G2 H2 ((ci s).map (·.1)) → Wd G2 H2 (ci s') → Q (.int x) H2
structure AskP {κ : Type} (G : Hp) (f : Addr) (ci : κ → Cs) (ask : κ → Str → Option (Int × κ)) : Prop where
  cb : Cb G f
  ok : CalOk P w K mg base CX0 k f (PAsk ci ask G)
  fx : ∀ s s', (ci s).map (·.1) = (ci s').map (·.1)
structure AskX {κ : Type} (G : Hp) (f : Addr) (ci : κ → Cs) (ask : κ → Str → Option ((Xn ⊕ Int) × κ)) : Prop where
  cb : Cb G f
  ok : CalOk P w K mg base (L2.CX P w) k f (PAskX K ci ask G)
  fx : ∀ s s', (ci s).map (·.1) = (ci s').map (·.1)
end
section
variable {P : Program} {w : World} {K : PySem.W.Frag} {mg : Str → Option Value} {base : Heap} {k kk : Nat} {κ : Type} {ci : κ → Cs}
theorem cb_mono {G G' : Hp} {f : Addr} (e : Ex G G') (c : Cb G f) : Cb G' f := c.elim (fun ⟨F, h⟩ => .inl ⟨F, e _ _ h⟩) fun ⟨C, dx, fs, h⟩ => .inr ⟨C, dx, fs, e _ _ h⟩
theorem AskP.mono {ask : κ → Str → Option (Int × κ)} {G G' : Hp} {f : Addr} (e : Ex G G') (a : AskP P w K mg base k G f ci ask) : AskP P w K mg base k G' f ci ask :=
  ⟨cb_mono e a.cb, a.ok.imp fun vs H Q E ⟨G2, s, nm, x, s', h1, h2, h3⟩ => ⟨G2, s, nm, x, s', h1, e.trans h2, h3⟩, a.fx⟩
theorem AskX.mono {ask : κ → Str → Option ((Xn ⊕ Int) × κ)} {G G' : Hp} {f : Addr} (e : Ex G G') (a : AskX P w K mg base k G f ci ask) : AskX P w K mg base k G' f ci ask :=
  ⟨cb_mono e a.cb, a.ok.imp fun vs H Q E ⟨G2, s, nm, x, s', h1, h2, h3⟩ => ⟨G2, s, nm, x, s', h1, e.trans h2, h3⟩, a.fx⟩
theorem AskP.lev {ask : κ → Str → Option (Int × κ)} {G : Hp} {f : Addr} (a : AskP P w K mg base k G f ci ask) (h : k ≤ kk) : AskP P w K mg base kk G f ci ask := ⟨a.cb, a.ok.mono h, a.fx⟩
theorem AskX.lev {ask : κ → Str → Option ((Xn ⊕ Int) × κ)} {G : Hp} {f : Addr} (a : AskX P w K mg base k G f ci ask) (h : k ≤ kk) : AskX P w K mg base kk G f ci ask := ⟨a.cb, a.ok.mono h, a.fx⟩
variable {G0 H0 G H G2 H2 : Hp} {ls : List Addr} {cs : Cs} {f : Addr} {X : Cx} {σ : L2.St} {i : Nat} {CX : CXT}
/-- the tail of the cells changes -/
theorem Wo.tailW {a a' : Cs} (w : Wo G0 H0 ls G H (cs ++ a)) (fr : Fr G H G2 H2 (a.map (·.1))) (w2 : Wd G2 H2 a') (e : a'.map (·.1) = a.map (·.1)) : Wo G0 H0 ls G2 H2 (cs ++ a') := by
  have nd : (cs.map (·.1) ++ a.map (·.1)).Nodup := by have := w.w.nd; rw [List.map_append] at this; exact this
  refine ⟨⟨w2.ex, fun c h => ?_, by rw [List.map_append, e]; exact nd⟩, ?_, fun c h => ?_⟩
  · rcases List.mem_append.mp h with h | h
    · obtain ⟨h1, o, h2, h3⟩ := w.w.app.1.at_ c h
      have hn : c.1 ∉ a.map (·.1) := fun z => (List.nodup_append.mp nd).2.2 _ (List.mem_map_of_mem h) _ z rfl
      exact ⟨fr.nw _ (by rw [h2]; simp) h1, o, fr.fr _ _ h2 hn, c.2.mono fr.gg h3⟩
    · exact w2.at_ c h
  · refine ⟨w.f.gg.trans fr.gg, fun x o h1 h2 => ?_, fun x h1 h2 => fr.nw x (w.f.st x h1) (w.f.nw x h1 h2), fun x h => fr.st x (w.f.st x h)⟩
    refine fr.fr x o (w.f.fr x o h1 h2) fun hx => ?_
    obtain ⟨c, hc, rfl⟩ := List.mem_map.mp hx
    rcases w.lo c (List.mem_append_right _ hc) with z | z
    · exact h2 z
    · rw [z] at h1; cases h1
  · rcases List.mem_append.mp h with h | h
    · exact w.lo c (List.mem_append_left _ h)
    · have : c.1 ∈ a.map (·.1) := by rw [← e]; exact List.mem_map_of_mem h
      obtain ⟨c0, hc0, e0⟩ := List.mem_map.mp this
      have := w.lo c0 (List.mem_append_right _ hc0)
      rw [e0] at this
      exact this
theorem Wo.tailD {a : Cs} (w : Wo G0 H0 ls G H (cs ++ a)) : Wd G H a := w.w.app.2
/-- x(..), x the thing asked -/
theorem o_ask {E : L2.St → XK} {t : TA} {Q : VK} (hi : σ[i]? = some (some (.ref f))) (c : Cb G0 f) (e : Ex G0 H) (h : t σ H fun vs H1 => (∀ o, G0 f = some o → H1 f = some o) ∧ ∃ sp, CalOk X.prog X.w X.K X.mg X.base CX k f sp ∧ sp vs H1 Q (E σ))
    (mono : ∀ Q Q' : List V → Hp → Prop, (∀ vs H, Q vs H → Q' vs H) → t σ H Q → t σ H Q') : tCallV X CX k i E t σ H Q := by
  refine ⟨f, hi, cb_mono e c, mono _ _ (fun vs H1 ⟨h1, h2⟩ => ⟨⟨fun F hF => ?_, fun C dx fs hF => ?_⟩, h2⟩) h⟩
  · rcases c with ⟨F2, z⟩ | ⟨C, dx, fs, z⟩
    · rw [e _ _ z] at hF
      rw [← hF]
      exact h1 _ z
    · rw [e _ _ z] at hF
      cases hF
  · rcases c with ⟨F2, z⟩ | ⟨C2, dx2, fs2, z⟩
    · rw [e _ _ z] at hF
      cases hF
    · rw [e _ _ z] at hF
      cases hF
      exact ⟨_, h1 _ z⟩
theorem c_askP {ask : κ → Str → Option (Int × κ)} {s s' : κ} {nm : Str} {x : Int} {Q : VK} {E : XK} (w' : Wo G0 H0 ls G H (cs ++ ci s)) (A : AskP P w K mg base k G0 f ci ask) (hz : ask s nm = some (x, s'))
    (kq : ∀ H2 G2, Wo G0 H0 ls G2 H2 (cs ++ ci s') → Ex G G2 → Q (.int x) H2) : (∀ o, G0 f = some o → H f = some o) ∧ ∃ sp, CalOk P w K mg base CX0 k f sp ∧ sp [.str nm] H Q E :=
  ⟨fun o h => w'.ex _ _ (w'.f.gg _ _ h), _, A.ok, G, s, nm, x, s', rfl, w'.f.gg, w'.tailD, hz, fun H2 G2 fr w2 => kq H2 G2 (w'.tailW fr w2 (A.fx s' s)) fr.gg⟩
theorem c_askX {ask : κ → Str → Option ((Xn ⊕ Int) × κ)} {s s' : κ} {nm : Str} {r : Xn ⊕ Int} {Q : VK} {E : XK} (w' : Wo G0 H0 ls G H (cs ++ ci s)) (A : AskX P w K mg base k G0 f ci ask) (hz : ask s nm = some (r, s'))
    (kx : ∀ e, r = .inl e → ∀ d H2 G2, Wo G0 H0 ls G2 H2 (cs ++ ci s') → Ex G G2 → Xat G2 e d → E (.ref (He.ga K e.cls)) (some d) H2)
    (kq : ∀ x, r = .inr x → ∀ H2 G2, Wo G0 H0 ls G2 H2 (cs ++ ci s') → Ex G G2 → Q (.int x) H2) : (∀ o, G0 f = some o → H f = some o) ∧ ∃ sp, CalOk P w K mg base (L2.CX P w) k f sp ∧ sp [.str nm] H Q E :=
  ⟨fun o h => w'.ex _ _ (w'.f.gg _ _ h), _, A.ok, G, s, nm, r, s', rfl, w'.f.gg, w'.tailD, hz, fun e he d H2 G2 fr w2 xa => kx e he d H2 G2 (w'.tailW fr w2 (A.fx s' s)) fr.gg xa, fun x hx H2 G2 fr w2 => kq x hx H2 G2 (w'.tailW fr w2 (A.fx s' s)) fr.gg⟩
end
/-! ### defs that ask -/
section
variable (P : Program) (w : World) (K : PySem.W.Frag) (mg : Str → Option Value) (base : Heap) (k : Nat)
def PKp {ι γ : Type} (A : AR ι) (R : Rep γ) (f : ∀ {κ : Type}, (κ → Str → Option (Int × κ)) → ι → κ → Option (γ × κ)) : Sp := fun vs H Q _ => ∃ (κ : Type) (ci : κ → Cs) (ask : κ → Str → Option (Int × κ)) (G : Hp) (ws : List V) (fk : Addr) (i : ι) (s : κ) (x : γ) (s' : κ),
  vs = ws ++ [.ref fk] ∧ A.r G ws i ∧ AskP P w K mg base k G fk ci ask ∧ Wd G H (ci s) ∧ f ask i s = some (x, s') ∧ ∀ v H2 G2, Fr G H G2 H2 ((ci s).map (·.1)) → Wd G2 H2 (ci s') → R.r G2 v x → Q v H2
def PKx {ι γ : Type} (A : AR ι) (R : Rep γ) (f : ∀ {κ : Type}, (κ → Str → Option ((Xn ⊕ Int) × κ)) → ι → κ → Option ((Xn ⊕ γ) × κ)) : Sp := fun vs H Q E => ∃ (κ : Type) (ci : κ → Cs) (ask : κ → Str → Option ((Xn ⊕ Int) × κ)) (G : Hp) (ws : List V) (fk : Addr) (i : ι) (s : κ) (r : Xn ⊕ γ) (s' : κ),
  vs = ws ++ [.ref fk] ∧ A.r G ws i ∧ AskX P w K mg base k G fk ci ask ∧ Wd G H (ci s) ∧ f ask i s = some (r, s') ∧
  (∀ e, r = .inl e → ∀ d H2 G2, Fr G H G2 H2 ((ci s).map (·.1)) → Wd G2 H2 (ci s') → Xat G2 e d → E (.ref (He.ga K e.cls)) (some d) H2) ∧ ∀ x, r = .inr x → ∀ v H2 G2, Fr G H G2 H2 ((ci s).map (·.1)) → Wd G2 H2 (ci s') → R.r G2 v x → Q v H2
end
/-! ### a function made by a lambda and handed over at once -/
/-- what stands below a heap without the laid cells -/
class Dn {α : Type} (R : Rep α) : Prop where
  dn : ∀ {G : Hp} {cs : List (Addr × Obj)} {v : V} {x : α}, (∀ c o, cs.lookup c = some o → G c = some (CelO o)) → R.r G v x → R.r (unlayH cs G) v x
theorem dn_at {G : Hp} {cs : List (Addr × Obj)} {a : Addr} {o : HO} (hl : ∀ c o, cs.lookup c = some o → G c = some (CelO o)) (n : ∀ o', o ≠ CelO o') (h : G a = some o) : unlayH cs G a = some o := by
  cases q : cs.lookup a with
  | none => rw [unlay_out q]; exact h
  | some o' => rw [hl a o' q] at h; exact absurd (Option.some.inj h).symm (n o')
instance : Dn rI := ⟨fun _ h => h⟩
instance : Dn rS := ⟨fun _ h => h⟩
instance : Dn rB := ⟨fun _ h => h⟩
instance : Dn rU := ⟨fun _ h => h⟩
instance : Dn rA := ⟨fun _ h => h⟩
instance {α β : Type} {R : Rep α} {S : Rep β} [Dn R] [Dn S] : Dn (rP R S) := ⟨fun hl ⟨a, x, y, h1, h2, h3, h4⟩ => ⟨a, x, y, h1, dn_at hl (fun _ z => by cases z) h2, Dn.dn hl h3, Dn.dn hl h4⟩⟩
instance {α : Type} {R : Rep α} [Dn R] : Dn (rL R) := ⟨fun hl ⟨a, vs, h1, h2, h3⟩ => ⟨a, vs, h1, dn_at hl (fun _ z => by cases z) h2, Paired.mapP h3 fun _ _ => Dn.dn hl⟩⟩
instance {α : Type} {R : Rep α} [Dn R] : Dn (rT R) := ⟨fun hl ⟨a, vs, h1, h2, h3⟩ => ⟨a, vs, h1, dn_at hl (fun _ z => by cases z) h2, Paired.mapP h3 fun _ _ => Dn.dn hl⟩⟩
/-- a list cell's content -/
def DnC (cp : CP) : Prop := ∀ {G : Hp} {cs : List (Addr × Obj)} {o : HO}, (∀ c o, cs.lookup c = some o → G c = some (CelO o)) → cp.p G o → cp.p (unlayH cs G) o
theorem dnC_L {α : Type} {R : Rep α} [Dn R] {xs : List α} : DnC (cL R xs) := fun hl ⟨vs, h1, h2⟩ => ⟨vs, h1, Paired.mapP h2 fun _ _ => Dn.dn hl⟩
theorem dnC_T {q : Str} : DnC (cTab q) := fun hl ⟨ps, h1, h2⟩ => ⟨ps, h1, h2.ok, fun p cv h => let ⟨a, e1, e2⟩ := h2.cd p cv h; ⟨a, e1, dn_at hl (fun o z => by unfold CodeO CelO at z; cases z) e2⟩⟩
section
variable {G0 H0 G H G2 H2 : Hp} {ls : List Addr} {cs : Cs} {cels : List (Addr × Obj)}
theorem lay_up (hn : ∀ c o, cels.lookup c = some o → H c = none) (e : Ex G H) : Up G H (layH cels G) (layH cels H) := by
  have gn : ∀ c o, cels.lookup c = some o → G c = none := fun c o q => fresh_back e (hn c o q)
  refine ⟨fun a o h => lay_ex gn h, fun a o h => ?_, fun a o h => lay_ex hn h, fun a h1 h2 => ?_⟩
  · cases q : cels.lookup a with
    | some o' => rw [lay_in q] at h ⊢; exact h
    | none => rw [lay_out q] at h ⊢; exact e a o h
  · cases q : cels.lookup a with
    | some o' => exact absurd (hn a o' q) h1
    | none => rw [lay_out q]; exact h2
/-- the cells are taken out again -/
theorem Wo.unlay (w : Wo G0 H0 ls G H cs) (e0 : Ex G0 H0) (hl : ∀ c o, cels.lookup c = some o → G c = some (CelO o)) (h0 : ∀ c o, cels.lookup c = some o → H0 c = none) (hd : ∀ c ∈ cs, DnC c.2) : Wo G0 H0 ls (unlayH cels G) (unlayH cels H) cs := by
  have g0 : ∀ c o, cels.lookup c = some o → G0 c = none := fun c o q => fresh_back e0 (h0 c o q)
  have gg : Ex G0 (unlayH cels G) := fun a o h => by
    cases q : cels.lookup a with
    | some o' => rw [g0 a o' q] at h; cases h
    | none => rw [unlay_out q]; exact w.f.gg a o h
  refine ⟨⟨fun a o h => ?_, fun c hc => ?_, w.w.nd⟩, ⟨gg, fun a o h1 h2 => ?_, fun a h1 h2 => ?_, fun a h => ?_⟩, w.lo⟩
  · cases q : cels.lookup a with
    | some o' => rw [unlay_in q] at h; cases h
    | none => rw [unlay_out q] at h ⊢; exact w.ex a o h
  · obtain ⟨h1, o, h2, h3⟩ := w.w.at_ c hc
    cases q : cels.lookup c.1 with
    | some o' => rw [hl _ _ q] at h1; cases h1
    | none => exact ⟨by rw [unlay_out q]; exact h1, o, by rw [unlay_out q]; exact h2, hd c hc hl h3⟩
  · cases q : cels.lookup a with
    | some o' => rw [h0 a o' q] at h1; cases h1
    | none => rw [unlay_out q]; exact w.f.fr a o h1 h2
  · cases q : cels.lookup a with
    | some o' => exact unlay_in q
    | none => rw [unlay_out q]; exact w.f.nw a h1 h2
  · cases q : cels.lookup a with
    | some o' => exact absurd (h0 a o' q) h
    | none => rw [unlay_out q]; exact w.f.st a h
theorem ex_unlay (e : Ex G G2) (hn : ∀ c o, cels.lookup c = some o → G c = none) : Ex G (unlayH cels G2) := fun a o h => by
  cases q : cels.lookup a with
  | some o' => rw [hn a o' q] at h; cases h
  | none => rw [unlay_out q]; exact e a o h
end
/-- the data heap behind the making of a function -/
def lamG (G H H1 : Hp) : Hp := fun a => match H a with
  | none => H1 a
  | some _ => G a
section
variable {G0 H0 G H H1 : Hp} {ls : List Addr} {cs : Cs} {Pt fl : Addr} {F : LF} {ps0 ps : Array Value} {j : Nat} {q : Str}
theorem lamG_new {a : Addr} (h : H a = none) : lamG G H H1 a = H1 a := by unfold lamG; rw [h]
theorem lamG_old {a : Addr} {o : HO} (h : H a = some o) : lamG G H H1 a = G a := by unfold lamG; rw [h]
/-- the cells behind the making of a function: the table is written -/
theorem Wo.made (w : Wo G0 H0 ls G H cs) (hc : cs[j]? = some (Pt, cTab q)) (ex : ∀ b o, b ≠ Pt → H b = some o → H1 b = some o) (tb : H1 Pt = some (.tbl ps)) (cd : Cds (lamG G H H1) q ps) : Wo G0 H0 ls (lamG G H H1) H1 cs ∧ Ex G (lamG G H H1) := by
  obtain ⟨gP, oP, hP, _⟩ := w.w.getAt hc
  have eG : Ex G (lamG G H H1) := fun a o h => by
    rw [lamG_old (w.ex a o h)]
    exact h
  have e1 : Ex (lamG G H H1) H1 := fun a o h => by
    cases z : H a with
    | none => rw [lamG_new z] at h; exact h
    | some o2 =>
      rw [lamG_old z] at h
      have h2 := w.ex a o h
      exact ex a o (fun e => by rw [e, gP] at h; cases h) h2
  refine ⟨⟨⟨e1, fun c hm => ?_, w.w.nd⟩, ⟨w.f.gg.trans eG, fun a o h1 h2 => ?_, fun a h1 h2 => ?_, fun a h => ?_⟩, w.lo⟩, eG⟩
  · obtain ⟨h1, o, h2, h3⟩ := w.w.at_ c hm
    refine ⟨by rw [lamG_old h2]; exact h1, ?_⟩
    by_cases e : c.1 = Pt
    · have hcc : c = (Pt, cTab q) := by
        obtain ⟨i, hi⟩ := List.getElem?_of_mem hm
        have a1 : (cs.map (·.1))[i]? = some Pt := by rw [List.getElem?_map, hi, ← e]; rfl
        have a2 : (cs.map (·.1))[j]? = some Pt := by rw [List.getElem?_map, hc]; rfl
        have := nodup_ix w.w.nd a1 a2
        subst this
        rw [hi] at hc
        exact Option.some.inj hc
      rw [hcc]
      exact ⟨_, tb, ps, rfl, cd⟩
    · exact ⟨o, ex _ _ e h2, c.2.mono eG h3⟩
  · refine ex a o (fun e => ?_) (w.f.fr a o h1 h2)
    have hm : (Pt, cTab q) ∈ cs := List.mem_of_getElem? hc
    rcases w.lo _ hm with z | z
    · exact h2 (by rw [e]; exact z)
    · rw [e] at h1
      rw [show H0 Pt = none from z] at h1
      cases h1
  · have h3 := w.f.nw a h1 h2
    have h4 := w.f.st a h1
    cases z : H a with
    | none => exact absurd z h4
    | some o => rw [lamG_old z]; exact h3
  · have h4 := w.f.st a h
    cases z : H a with
    | none => exact absurd z h4
    | some o =>
      by_cases e : a = Pt
      · rw [e, tb]; simp
      · rw [ex a o e z]; simp
/-- the codes of the table, told of the data heap -/
theorem cds_made (w : Wo G0 H0 ls G H cs) (hc : cs[j]? = some (Pt, cTab q)) (h0 : H Pt = some (.tbl ps0)) (ok : TriplesOk ps.toList) (co : H1 F.c = some (CodeO F.c q)) (src : H F.c = none ∨ ∃ pos, codeAmong pos ps0.toList = some (.ref F.c))
    (old : ∀ (pos : Pos) (cv : Value), codeAmong pos ps.toList = some cv → codeAmong pos ps0.toList = some cv ∨ cv = .ref F.c) : Cds (lamG G H H1) q ps ∧ lamG G H H1 F.c = some (CodeO F.c q) := by
  obtain ⟨gP, oP, hP, ps1, rfl, c1⟩ := w.w.getAt hc
  rw [h0] at hP
  cases hP
  have old2 : ∀ (p : Pos) (cv : Value), codeAmong p ps0.toList = some cv → ∃ c, cv = .ref c ∧ lamG G H H1 c = some (CodeO c q) := fun p cv e => by
    obtain ⟨c, e1, e2⟩ := c1.cd p cv e
    exact ⟨c, e1, by rw [lamG_old (w.ex _ _ e2)]; exact e2⟩
  have cc : lamG G H H1 F.c = some (CodeO F.c q) := by
    rcases src with z | ⟨p, z⟩
    · rw [lamG_new z]; exact co
    · obtain ⟨c, e1, e2⟩ := old2 p _ z
      cases e1
      exact e2
  refine ⟨⟨ok, fun p cv e => ?_⟩, cc⟩
  rcases old p cv e with z | z
  · exact old2 p cv z
  · exact ⟨_, z, cc⟩
end
end Sim

/-! x = f(.., lambda ..): the function asks a list of the def's own -/
namespace Sim
open PySem PySem.Spec PyProof.Rows L2 Evl LamX LamF NdefX
def tSnoc (ta : TA) (te : TE) : TA := fun σ H Q => ta σ H fun vs H1 => te σ H1 fun v H2 => Q (vs ++ [v]) H2
section
variable {X : Cx} {kk : Nat} {σ : L2.St} {G0 H0 G H : Hp} {ls : List Addr} {cs : Cs} {ta : TA} {ι α γ : Type} {A : AR ι} {R : Rep γ} {Ra : Rep α} {D : Ends} {tz : TS}
theorem x_askcall {a j j2 : Nat} {la Pt : Addr} {q : Str} {fr : List Str} {us : List V} {mk : Addr → LF} {Ez : L2.St → XK} {mi : Option ι} {i : ι} {ask : List α → Str → Option (Int × List α)} {f : ∀ {κ : Type}, (κ → Str → Option (Int × κ)) → ι → κ → Option (γ × κ)} {ys ys' : List α} {x : γ} [Dn Ra] [Dn R]
    (w0 : Wo G0 H0 ls G H cs) (e0 : Ex G0 H0) (hj : cs[j]? = some (la, cL Ra ys)) (hj2 : cs[j2]? = some (Pt, cTab q)) (ha : EA ta σ G H A mi) (hmi : mi = some i) (hd : ∀ ys', ∀ c ∈ cs.set j (la, cL Ra ys'), DnC c.2)
    (hq : ∀ c', (mk c').qual = q) (hc : ∀ c', (mk c').c = c') (hcl : ∀ c', (mk c').cl = cloFrom X.env.cells (mk 0).scope.names []) (hfr : ∀ y ∈ fr, (y, NameKind.free) ∈ (mk 0).scope.names) (hfr2 : ∀ y, (y, NameKind.free) ∈ (mk 0).scope.names → y ∈ fr) (ln : us.length = fr.length)
    (hσ : ∀ (n : Nat) (y : Str), fr[n]? = some y → ∃ (jx : Nat) (v : V), X.N[jx]? = some y ∧ σ[jx]? = some (some v) ∧ Vis X.env.scope y ∧ us[n]? = some v)
    (hask : ∀ f c' G', Ex G G' → Clos G' f (mk c') fr us → AskP X.prog X.w X.K X.mg X.base kk G' f (fun s => [(la, cL Ra s)]) ask) (hz : f ask i ys = some (x, ys'))
    (kq : ∀ v H2 G2, Wo G0 H0 ls G2 H2 (cs.set j (la, cL Ra ys')) → Ex G G2 → R.r G2 v x → tz D (σ.set a (some v)) H2) :
    tSeq (tAsg (tCallLay X fr (PKp X.prog X.w X.K X.mg X.base kk A R f) Ez (tSnoc ta (tLam Pt mk))) (gName a)) tz D σ H := by
  refine ha i hmi H w0.ex (Ex.refl _) _ fun vs H1 G1 u1 r1 => ?_
  have w1 := w0.up u1
  obtain ⟨gP, oP, hP, ps0, rfl, cP⟩ := w1.w.getAt hj2
  refine ⟨ps0, hP, by rw [hq]; exact Cds.mono w1.ex cP, fun fl c' ps' H2 lm => ?_⟩
  have co := lm.co
  rw [hq] at co
  have cdm := cds_made (F := mk c') w1 hj2 hP lm.cd.ok co lm.src lm.old
  obtain ⟨w2, e2⟩ := w1.made hj2 lm.ex lm.tb cdm.1
  intro cels LB
  have hn := LB.nn
  have up := lay_up hn w2.ex
  have w3 := w2.up up
  have eG : Ex G (layH cels (lamG G1 H1 H2)) := (u1.gg.trans e2).trans up.gg
  have flG : lamG G1 H1 H2 fl = some (FnL fl (mk c')) := by rw [lamG_new lm.nf]; exact lm.at_
  have celG : ∀ c o, cels.lookup c = some o → layH cels (lamG G1 H1 H2) c = some (CelO o) := fun c o e => lay_in e
  have cl3 : Clos (layH cels (lamG G1 H1 H2)) fl (mk c') fr us := by
    refine ⟨up.gg _ _ flG, up.gg _ _ (by rw [hq]; exact cdm.2), fun n y hy => ?_, fun y c e => ?_, fun p y c e1 e2 => ?_, ln⟩
    · obtain ⟨c, o, u, k1, k2, k3, k4⟩ := LB.at_ y (List.mem_of_getElem? hy)
      obtain ⟨jx, v, m1, m2, m3, m4⟩ := hσ n y hy
      obtain ⟨u', rfl, rv⟩ := k4 jx v m1 m2 m3
      exact ⟨c, o, u', v, by rw [hcl]; exact clo_look (hfr y (List.mem_of_getElem? hy)) k1, celG c o k2, k3, m4, rv⟩
    · rw [hcl] at e
      rcases cloFrom_mem (PySem.mem_of_lookup e) with z | ⟨z, _⟩
      · cases z
      · exact hfr2 y z
    · have hs : ∀ y, (y, NameKind.free) ∈ (mk 0).scope.names → ∃ c, X.env.cells.lookup y = some c := fun y hy => by
        obtain ⟨c, o, u, k1, _⟩ := LB.at_ y (hfr2 y hy)
        exact ⟨c, k1⟩
      rw [hcl] at e1 e2
      exact LB.inj p y c (clo_sub e1 hs).2 (clo_sub e2 hs).2
  have AP := hask fl c' _ eG cl3
  refine ⟨List α, fun s => [(la, cL Ra s)], ask, layH cels (lamG G1 H1 H2), vs, fl, i, ys, x, ys', rfl, A.mono (e2.trans up.gg) r1, AP, w3.sub1 hj, hz, fun v H4 G4 fr4 w4 r4 => ?_⟩
  have w5 := w3.call1 hj fr4 w4
  have cel4 : ∀ c o, cels.lookup c = some o → G4 c = some (CelO o) := fun c o e => fr4.gg _ _ (celG c o e)
  have h0n : ∀ c o, cels.lookup c = some o → H0 c = none := fun c o e => by
    cases z : H0 c with
    | none => rfl
    | some o2 => exact absurd (hn c o e) (w2.f.st c (by rw [z]; simp))
  have w6 := w5.unlay e0 cel4 h0n (hd ys')
  have gnone : ∀ c o, cels.lookup c = some o → G c = none := fun c o e => by
    cases z : G c with
    | none => rfl
    | some o2 =>
      have h1 := (u1.gg.trans e2) _ _ z
      have h2 := w2.ex _ _ h1
      rw [hn c o e] at h2
      cases h2
  exact kq v _ _ w6 (ex_unlay (eG.trans fr4.gg) gnone) (Dn.dn cel4 r4)
end
end Sim

/-! calls that change cells at any places; the tail of the cells; lambdas handed over, printed by gen.py -/
namespace Sim
open PySem PySem.Spec PyProof.Rows L2 Evl LamX LamF NdefX
/-- the cells at these places -/
def SelJ (cs : Cs) : List Nat → Cs → Prop
  | [], [] => True
  | j :: js, c :: a => cs[j]? = some c ∧ SelJ cs js a
  | _, _ => False
def putJ (cs : Cs) : List Nat → Cs → Cs
  | j :: js, c :: a => (putJ cs js a).set j c
  | _, _ => cs
theorem selJ_mem {cs : Cs} : ∀ {js : List Nat} {a : Cs}, SelJ cs js a → ∀ c ∈ a, ∃ j ∈ js, cs[j]? = some c
  | [], [], _, c, h => nomatch h
  | j :: js, d :: a, ⟨h1, h2⟩, c, h => by
    rcases List.mem_cons.mp h with rfl | h
    · exact ⟨j, List.mem_cons_self .., h1⟩
    · obtain ⟨i, hi, e⟩ := selJ_mem h2 c h
      exact ⟨i, List.mem_cons_of_mem _ hi, e⟩
theorem selJ_ix {cs : Cs} : ∀ {js : List Nat} {a : Cs}, SelJ cs js a → ∀ j ∈ js, ∃ c ∈ a, cs[j]? = some c
  | [], [], _, j, h => nomatch h
  | i :: js, d :: a, ⟨h1, h2⟩, j, h => by
    rcases List.mem_cons.mp h with rfl | h
    · exact ⟨d, List.mem_cons_self .., h1⟩
    · obtain ⟨c, hc, e⟩ := selJ_ix h2 j h
      exact ⟨c, List.mem_cons_of_mem _ hc, e⟩
theorem selJ_nd {cs : Cs} (nd : (cs.map (·.1)).Nodup) : ∀ {js : List Nat} {a : Cs}, js.Nodup → SelJ cs js a → (a.map (·.1)).Nodup
  | [], [], _, _ => List.nodup_nil
  | j :: js, c :: a, hn, ⟨h1, h2⟩ => by
    refine List.nodup_cons.mpr ⟨fun z => ?_, selJ_nd nd (List.nodup_cons.mp hn).2 h2⟩
    obtain ⟨d, hd, e⟩ := List.mem_map.mp z
    obtain ⟨i, hi, e2⟩ := selJ_mem h2 d hd
    have a1 : (cs.map (·.1))[j]? = some c.1 := by rw [List.getElem?_map, h1]; rfl
    have a2 : (cs.map (·.1))[i]? = some c.1 := by rw [List.getElem?_map, e2]; exact congrArg some e
    have := nodup_ix nd a1 a2
    subst this
    exact (List.nodup_cons.mp hn).1 hi
theorem selJ_wd {G H : Hp} {cs a : Cs} {js : List Nat} (w : Wd G H cs) (hn : js.Nodup) (h : SelJ cs js a) : Wd G H a :=
  ⟨w.ex, fun c hc => let ⟨_, _, e⟩ := selJ_mem h c hc; w.at_ c (List.mem_of_getElem? e), selJ_nd w.nd hn h⟩
theorem putJ_map {cs : Cs} : ∀ {js : List Nat} {a a' : Cs}, SelJ cs js a → a'.map (·.1) = a.map (·.1) → (putJ cs js a').map (·.1) = cs.map (·.1)
  | [], [], [], _, _ => rfl
  | j :: js, c :: a, d :: a', ⟨h1, h2⟩, e => by
    obtain ⟨e1, e2⟩ := List.cons.inj e
    have ih := putJ_map h2 e2
    show ((putJ cs js a').set j d).map (·.1) = _
    rw [List.map_set, ih]
    refine List.ext_getElem? fun n => ?_
    rw [List.getElem?_set]
    split
    · rename_i h
      subst h
      have a1 : (cs.map (·.1))[j]? = some c.1 := by rw [List.getElem?_map, h1]; rfl
      rw [a1]
      have : j < (cs.map (·.1)).length := (List.getElem?_eq_some_iff.mp a1).1
      rw [if_pos this]
      exact congrArg some e1
    · rfl
  | [], [], _ :: _, _, e => by cases e
  | _ :: _, _ :: _, [], _, e => by cases e
theorem putJ_len {cs : Cs} : ∀ {js : List Nat} {a' : Cs}, (putJ cs js a').length = cs.length
  | [], _ => rfl
  | _ :: _, [] => rfl
  | j :: js, d :: a' => by
    show ((putJ cs js a').set j d).length = _
    rw [List.length_set, putJ_len]
theorem putJ_at {cs : Cs} : ∀ {js : List Nat} {a' : Cs} {n : Nat} {c : Addr × CP}, js.length = a'.length → (putJ cs js a')[n]? = some c → c ∈ a' ∨ (n ∉ js ∧ cs[n]? = some c)
  | [], [], n, c, _, h => .inr ⟨by simp, h⟩
  | j :: js, d :: a', n, c, e, h => by
    have h : ((putJ cs js a').set j d)[n]? = some c := h
    rw [List.getElem?_set] at h
    split at h
    · rename_i q
      split at h
      · cases h; exact .inl (List.mem_cons_self ..)
      · cases h
    · rename_i q
      rcases putJ_at (by simpa using e) h with z | ⟨z1, z2⟩
      · exact .inl (List.mem_cons_of_mem _ z)
      · exact .inr ⟨fun z => by
          rcases List.mem_cons.mp z with z | z
          · exact q z.symm
          · exact z1 z, z2⟩
  | [], _ :: _, _, _, e, _ => by cases e
  | _ :: _, [], _, _, e, _ => by cases e
theorem selJ_len {cs : Cs} : ∀ {js : List Nat} {a : Cs}, SelJ cs js a → js.length = a.length
  | [], [], _ => rfl
  | _ :: _, _ :: _, ⟨_, h⟩ => congrArg (· + 1) (selJ_len h)
section
variable {σ : L2.St} {G0 H0 G H G2 H2 : Hp} {ls : List Addr} {cs : Cs}
/-- behind a call that changed the cells at these places -/
theorem Wo.callJ {a a' : Cs} {js : List Nat} (w : Wo G0 H0 ls G H cs) (hn : js.Nodup) (hs : SelJ cs js a) (fr : Fr G H G2 H2 (a.map (·.1))) (w2 : Wd G2 H2 a') (e : a'.map (·.1) = a.map (·.1)) : Wo G0 H0 ls G2 H2 (putJ cs js a') := by
  have hm := putJ_map hs e
  have el : js.length = a'.length := by
    rw [selJ_len hs]
    have := congrArg List.length e
    simpa using this.symm
  have key : ∀ c ∈ putJ cs js a', c ∈ a' ∨ (c ∈ cs ∧ c.1 ∉ a.map (·.1)) := fun c hc => by
    obtain ⟨n, hn'⟩ := List.getElem?_of_mem hc
    rcases putJ_at el hn' with z | ⟨z1, z2⟩
    · exact .inl z
    · refine .inr ⟨List.mem_of_getElem? z2, fun q => ?_⟩
      obtain ⟨d, hd, e1⟩ := List.mem_map.mp q
      obtain ⟨i, hi, e2⟩ := selJ_mem hs d hd
      have a1 : (cs.map (·.1))[n]? = some c.1 := by rw [List.getElem?_map, z2]; rfl
      have a2 : (cs.map (·.1))[i]? = some c.1 := by rw [List.getElem?_map, e2]; exact congrArg some e1
      have := nodup_ix w.w.nd a1 a2
      subst this
      exact z1 hi
  refine ⟨⟨w2.ex, fun c hc => ?_, by rw [hm]; exact w.w.nd⟩, ?_, fun c hc => ?_⟩
  · rcases key c hc with z | ⟨z1, z2⟩
    · exact w2.at_ c z
    · obtain ⟨h1, o, h2, h3⟩ := w.w.at_ c z1
      exact ⟨fr.nw _ (by rw [h2]; simp) h1, o, fr.fr _ _ h2 z2, c.2.mono fr.gg h3⟩
  · refine ⟨w.f.gg.trans fr.gg, fun x o h1 h2 => ?_, fun x h1 h2 => fr.nw x (w.f.st x h1) (w.f.nw x h1 h2), fun x h => fr.st x (w.f.st x h)⟩
    refine fr.fr x o (w.f.fr x o h1 h2) fun hx => ?_
    obtain ⟨c, hc, rfl⟩ := List.mem_map.mp hx
    obtain ⟨_, _, e2⟩ := selJ_mem hs c hc
    rcases w.lo c (List.mem_of_getElem? e2) with z | z
    · exact h2 z
    · rw [z] at h1; cases h1
  · have : c.1 ∈ cs.map (·.1) := by rw [← hm]; exact List.mem_map_of_mem hc
    obtain ⟨d, hd, e1⟩ := List.mem_map.mp this
    have := w.lo d hd
    rw [e1] at this
    exact this
/-- a new cell ahead -/
theorem Wo.callJN {a a' : Cs} {js : List Nat} {p : Addr} {cq : CP} (w : Wo G0 H0 ls G H cs) (hn : js.Nodup) (hs : SelJ cs js a) (hp : H p = none) (fr : Fr G H G2 H2 (a.map (·.1))) (w2 : Wd G2 H2 ((p, cq) :: a')) (e : a'.map (·.1) = a.map (·.1)) : Wo G0 H0 ls G2 H2 ((p, cq) :: putJ cs js a') := by
  have w3 := w.callJ hn hs fr w2.tail e
  have n0 : H0 p = none := by
    cases z : H0 p with
    | none => rfl
    | some o => exact absurd hp (w.f.st p (by rw [z]; simp))
  refine ⟨⟨w3.ex, fun c hc => ?_, List.nodup_cons.mpr ⟨fun z => ?_, w3.w.nd⟩⟩, w3.f, fun c hc => ?_⟩
  · rcases List.mem_cons.mp hc with rfl | hc
    · exact w2.at_ _ (List.mem_cons_self ..)
    · exact w3.w.at_ c hc
  · rw [putJ_map hs e] at z
    obtain ⟨c, hc, e1⟩ := List.mem_map.mp z
    obtain ⟨_, o, h2, _⟩ := w.w.at_ c hc
    rw [show c.1 = p from e1, hp] at h2
    cases h2
  · rcases List.mem_cons.mp hc with rfl | hc
    · exact .inr n0
    · exact w3.lo c hc
theorem c_pmJ {ι κ α : Type} {A : AR ι} {ci : ι → κ → Cs} {R : Rep α} {f : ι → κ → Option (α × κ)} {vs : List V} {i : ι} {s s' : κ} {x : α} {Q : VK} {X : XK} (js : List Nat) (w : Wo G0 H0 ls G H cs) (hs : SelJ cs js (ci i s)) (hv : A.r G vs i) (hz : f i s = some (x, s')) (e : (ci i s').map (·.1) = (ci i s).map (·.1))
    (k : ∀ v H2 G2, Wo G0 H0 ls G2 H2 (putJ cs js (ci i s')) → Ex G G2 → R.r G2 v x → Q v H2) (hn : js.Nodup := by decide) : PM A ci R f vs H Q X :=
  ⟨G, i, s, x, s', hv, selJ_wd w.w hn hs, hz, fun v H2 G2 fr w2 r => k v H2 G2 (w.callJ hn hs fr w2 e) fr.gg r⟩
theorem c_pmlJ {ι κ α : Type} {A : AR ι} {ci : ι → κ → Cs} {R : Rep α} {f : ι → κ → Option (List α × κ)} {vs : List V} {i : ι} {s s' : κ} {x : List α} {Q : VK} {X : XK} (js : List Nat) (w : Wo G0 H0 ls G H cs) (hs : SelJ cs js (ci i s)) (hv : A.r G vs i) (hz : f i s = some (x, s')) (e : (ci i s').map (·.1) = (ci i s).map (·.1))
    (k : ∀ p H2 G2, H0 p = none → Wo G0 H0 ls G2 H2 ((p, cL R x) :: putJ cs js (ci i s')) → Ex G G2 → Q (.ref p) H2) (hn : js.Nodup := by decide) : PML A ci R f vs H Q X :=
  ⟨G, i, s, x, s', hv, selJ_wd w.w hn hs, hz, fun p H2 G2 np fr w2 => k p H2 G2 (by
    cases z : H0 p with
    | none => rfl
    | some o => exact absurd np (w.f.st p (by rw [z]; simp))) (w.callJN hn hs np fr w2 e) fr.gg⟩
/-- no answer but the value -/
def uM {α : Type} (m : Option α) : Option (α × Unit) := m.map fun x => (x, ())
theorem uM_of {α : Type} {m : Option α} {x : α} {u : Unit} (h : uM m = some (x, u)) : m = some x := by
  unfold uM at h
  cases m with
  | none => cases h
  | some y => cases h; rfl
theorem uM_to {α : Type} {m : Option α} {x : α} (h : m = some x) : uM m = some (x, ()) := by rw [h]; rfl
/-! ### the tail -/
theorem Wd.dropN (w : Wd G H cs) (n : Nat) : Wd G H (cs.drop n) := ⟨w.ex, fun c h => w.at_ c (List.mem_of_mem_drop h), by rw [List.map_drop]; exact w.nd.sublist (List.drop_sublist _ _)⟩
theorem Wo.permT {fr tl : Cs} (w : Wo G0 H0 ls G H (fr ++ tl)) (p : List Nat) (hp : p.Nodup) (hl : ∀ i ∈ p, i < fr.length) : Wo G0 H0 ls G H ((p.filterMap fun i => fr[i]?) ++ tl) := by
  have hm : ∀ c ∈ p.filterMap (fun i => fr[i]?), c ∈ fr := fun c hc => by
    obtain ⟨i, _, e⟩ := List.mem_filterMap.mp hc
    exact List.mem_of_getElem? e
  have nd := w.w.nd
  rw [List.map_append] at nd
  obtain ⟨n1, n2, n3⟩ := List.nodup_append.mp nd
  have wf : Wo G0 H0 ls G H fr := ⟨⟨w.ex, fun c h => w.w.at_ c (List.mem_append_left _ h), n1⟩, w.f, fun c h => w.lo c (List.mem_append_left _ h)⟩
  have wp := wf.perm p hp hl
  refine ⟨⟨w.ex, fun c h => ?_, ?_⟩, w.f, fun c h => ?_⟩
  · rcases List.mem_append.mp h with h | h
    · exact w.w.at_ c (List.mem_append_left _ (hm c h))
    · exact w.w.at_ c (List.mem_append_right _ h)
  · rw [List.map_append]
    refine List.nodup_append.mpr ⟨wp.w.nd, n2, fun x hx y hy => ?_⟩
    obtain ⟨c, hc, e⟩ := List.mem_map.mp hx
    exact n3 x (by rw [← e]; exact List.mem_map_of_mem (hm c hc)) y hy
  · rcases List.mem_append.mp h with h | h
    · exact w.lo c (List.mem_append_left _ (hm c h))
    · exact w.lo c (List.mem_append_right _ h)
variable {P : Program} {w : World} {K : PySem.W.Frag} {mg : Str → Option Value} {base : Heap} {k : Nat} {κ : Type} {ci : κ → Cs} {f : Addr}
theorem take_drop_eq {cs a : Cs} {n : Nat} (hc : cs.drop n = a) : cs = cs.take n ++ a := by rw [← hc, List.take_append_drop]
theorem o_askN {X : Cx} {CX : CXT} {i : Nat} {E : L2.St → XK} {t : TA} {Q : VK} (wq : Wo G0 H0 ls G H cs) (hi : σ[i]? = some (some (.ref f))) (c : Cb G0 f) (h : t σ H fun vs H1 => Cb2 H H1 f ∧ ∃ sp, CalOk X.prog X.w X.K X.mg X.base CX k f sp ∧ sp vs H1 Q (E σ)) : tCallV X CX k i E t σ H Q :=
  ⟨f, hi, cb_mono (wq.f.gg.trans wq.ex) c, h⟩
theorem cb2_of {Gq Hq : Hp} {csq : Cs} (wq : Wo G0 H0 ls Gq Hq csq) (w' : Wo G0 H0 ls G H cs) (c : Cb G0 f) : Cb2 Hq H f := by
  have e1 : Ex G0 Hq := wq.f.gg.trans wq.ex
  have e2 : Ex G0 H := w'.f.gg.trans w'.ex
  refine ⟨fun F hF => ?_, fun C dx fs hF => ?_⟩
  · rcases c with ⟨F2, z⟩ | ⟨C, dx, fs, z⟩
    · rw [e1 _ _ z] at hF
      rw [← hF]
      exact e2 _ _ z
    · rw [e1 _ _ z] at hF
      cases hF
  · rcases c with ⟨F2, z⟩ | ⟨C2, dx2, fs2, z⟩
    · rw [e1 _ _ z] at hF
      cases hF
    · rw [e1 _ _ z] at hF
      cases hF
      exact ⟨_, e2 _ _ z⟩
theorem c_askN {ask : κ → Str → Option (Int × κ)} {s s' : κ} {nm : Str} {x : Int} {Q : VK} {E : XK} {Gq Hq : Hp} {csq : Cs} (wq : Wo G0 H0 ls Gq Hq csq) (n : Nat) (w' : Wo G0 H0 ls G H cs) (hc : cs.drop n = ci s) (A : AskP P w K mg base k G0 f ci ask) (hz : ask s nm = some (x, s'))
    (kq : ∀ H2 G2, Wo G0 H0 ls G2 H2 (cs.take n ++ ci s') → Ex G G2 → Q (.int x) H2) : Cb2 Hq H f ∧ ∃ sp, CalOk P w K mg base CX0 k f sp ∧ sp [.str nm] H Q E := by
  have w2 : Wo G0 H0 ls G H (cs.take n ++ ci s) := by rw [← take_drop_eq hc]; exact w'
  exact ⟨cb2_of wq w' A.cb, (c_askP w2 A hz kq).2⟩
/-- names of the lambda's own, told as a test -/
theorem frees_sub {ns : List (Str × NameKind)} {fr : List Str} (h : (ns.all fun p => !decide (p.2 = NameKind.free) || decide (p.1 ∈ fr)) = true) (y : Str) (hy : (y, NameKind.free) ∈ ns) : y ∈ fr := by
  have := List.all_eq_true.mp h _ hy
  simpa using this
theorem frees_sub2 {ns : List (Str × NameKind)} {fr : List Str} (h : (ns.all fun p => !decide (p.2 = NameKind.free) || decide (p.1 ∈ fr)) = true) (y : Str × NameKind) (hy : y ∈ ns) (e : y.2 = .free) : y.1 ∈ fr := frees_sub h y.1 (by rw [← e]; exact hy)
theorem frees_in {ns : List (Str × NameKind)} {fr : List Str} (h : (fr.all fun y => decide ((y, NameKind.free) ∈ ns)) = true) (y : Str) (hy : y ∈ fr) : (y, NameKind.free) ∈ ns := of_decide_eq_true (List.all_eq_true.mp h _ hy)
/-- where the captured names stand -/
def FrAt (X : Cx) (σ : L2.St) : List Str → List V → Prop
  | [], [] => True
  | y :: fr, u :: us => (∃ jx : Nat, X.N[jx]? = some y ∧ σ[jx]? = some (some u) ∧ Vis X.env.scope y) ∧ FrAt X σ fr us
  | _, _ => False
theorem FrAt.at_ {X : Cx} : ∀ {fr : List Str} {us : List V}, FrAt X σ fr us → ∀ (n : Nat) (y : Str), fr[n]? = some y → ∃ (jx : Nat) (v : V), X.N[jx]? = some y ∧ σ[jx]? = some (some v) ∧ Vis X.env.scope y ∧ us[n]? = some v
  | [], [], _, n, y, h => by cases h
  | _ :: _, _ :: _, ⟨⟨jx, h1, h2, h3⟩, _⟩, 0, y, h => by cases h; exact ⟨jx, _, h1, h2, h3, rfl⟩
  | _ :: _, _ :: _, ⟨_, hr⟩, n + 1, y, h => FrAt.at_ hr n y h
theorem FrAt.len {X : Cx} : ∀ {fr : List Str} {us : List V}, FrAt X σ fr us → us.length = fr.length
  | [], [], _ => rfl
  | _ :: _, _ :: _, ⟨_, h⟩ => congrArg (· + 1) (FrAt.len h)
/-- a call that hands on what is asked -/
theorem c_pkN {ι γ : Type} {A : AR ι} {R : Rep γ} {m : ∀ {κ : Type}, (κ → Str → Option (Int × κ)) → ι → κ → Option (γ × κ)} {ask : κ → Str → Option (Int × κ)} {s s' : κ} {ws : List V} {i : ι} {x : γ} {Q : VK} {E : XK} {kk : Nat} (n : Nat) (w' : Wo G0 H0 ls G H cs) (hc : cs.drop n = ci s) (a : AskP P w K mg base k G0 f ci ask) (hk : k ≤ kk) (hv : A.r G ws i) (hz : m ask i s = some (x, s'))
    (kq : ∀ v H2 G2, Wo G0 H0 ls G2 H2 (cs.take n ++ ci s') → Ex G G2 → R.r G2 v x → Q v H2) : PKp P w K mg base kk A R m (ws ++ [.ref f]) H Q E := by
  have w2 : Wo G0 H0 ls G H (cs.take n ++ ci s) := by rw [← take_drop_eq hc]; exact w'
  exact ⟨κ, ci, ask, G, ws, f, i, s, x, s', rfl, hv, (a.mono w'.f.gg).lev hk, w2.tailD, hz, fun v H2 G2 fr w3 r => kq v H2 G2 (w2.tailW fr w3 (a.fx s' s)) fr.gg r⟩
/-- a lambda over a def that changes a captured list: asked -/
theorem askP_p1 {ι α : Type} {A : AR ι} {C : Rep α} {m : List α → ι → Option (Int × List α)} {la : Addr} {ws : List V → List V} {wr : Str → List V} {i : Str → ι} (cb : Cb G f) (h : CalOk P w K mg base CX0 k f fun vs H Q E => vs.length = 1 ∧ (∀ a o, G a = some o → H a = some o) ∧ P1 A C rI m (ws vs) H Q E)
    (hw : ∀ nm, ws [.str nm] = .ref la :: wr nm) (ha : ∀ nm, A.r G (wr nm) (i nm)) : AskP P w K mg base k G f (fun s => [(la, cL C s)]) fun s nm => m s (i nm) := by
  refine ⟨cb, h.imp fun vs H Q E ⟨G2, s, nm, x, s', e, h1, h2, h3, h4⟩ => ?_, fun _ _ => rfl⟩
  subst e
  refine ⟨rfl, fun a o z => h2.ex _ _ (h1 _ _ z), ?_⟩
  rw [hw]
  exact ⟨G2, (la, i nm), s, x, s', ⟨_, _, rfl, rfl, A.mono h1 (ha nm)⟩, h2, h3, fun v H3 G3 fr w3 r => by
    obtain rfl : v = .int x := r
    exact h4 H3 G3 fr w3⟩
end
end Sim

/-! the hook with tables of code objects; the law's end with tables -/
namespace Sim
open PySem PySem.Spec PyProof.Rows L2 Evl LamX LamF NdefX
/-- a def with lambdas: its code object, its table, the lambda's qualified name -/
structure TbD where
  at_ : Str × Option Str
  q : Str
def TbD.c (K : PySem.W.Frag) (d : TbD) : Addr × Addr := (codOf K (He.fAd K d.at_), tabOf K (He.fAd K d.at_))
def TbD.cel (K : PySem.W.Frag) (d : TbD) : Addr × CP := (tabOf K (He.fAd K d.at_), cTab d.q)
def tbB (g : Addr → Option Obj) (tf : List TbD) (K : PySem.W.Frag) : Bool := (tf.all fun p => PySem.W.codeHdIn K (p.c K).1 (p.c K).2 && (match g (p.c K).2 with
  | some o => He.emptyTab o
  | none => false)) && decide ((tf.map fun p => (p.c K).2).Nodup)
abbrev AlT : Type := AlZ × Bool
def obsTG (n : Nat) (fa : List He.Fa) (fn : List He.DefD) (ex : List (PySem.W.Frag → Bool)) (xs : List XcD) (gs : List GeD) (sp : List SpD) (tf : List TbD) (file : Str) (g : Addr → Option Obj) : AlT :=
  (obsZ fa fn ex xs gs sp file (He.frT g (cStatics :: He.asD g n)), tbB g tf (He.frT g (cStatics :: He.asD g n)))
structure SaysT (fa : List He.Fa) (fn : List He.DefD) (ex : List (PySem.W.Frag → Bool)) (xs : List XcD) (gs : List GeD) (sp : List SpD) (tf : List TbD) (file : Str) (h : Heap) (K : PySem.W.Frag) : Prop where
  s : SaysZ fa fn ex xs gs sp file K
  hd : ∀ p ∈ tf, PySem.W.codeHdIn K (p.c K).1 (p.c K).2 = true
  out : ∀ p ∈ tf, K.lookup (p.c K).2 = none
  nd : (tf.map fun p => (p.c K).2).Nodup
  empty : ∀ p ∈ tf, h.get? (p.c K).2 = some { cls := .none, data := .fields #[] }
theorem saysT_of {n : Nat} {fa : List He.Fa} {fn : List He.DefD} {ex : List (PySem.W.Frag → Bool)} {xs : List XcD} {gs : List GeD} {sp : List SpD} {tf : List TbD} {file : Str} {h : Heap}
    (e : obsTG n fa fn ex xs gs sp tf file h.get? = (((He.valD fn, true, xs.map XcD.val, gs.map GeD.val), true, sp.map SpD.val), true)) : SaysT fa fn ex xs gs sp tf file h (He.frT h.get? (cStatics :: He.asD h.get? n)) := by
  have e1 : obsZ fa fn ex xs gs sp file (He.frT h.get? (cStatics :: He.asD h.get? n)) = ((He.valD fn, true, xs.map XcD.val, gs.map GeD.val), true, sp.map SpD.val) := congrArg (fun z : AlT => z.1) e
  have e2 : tbB h.get? tf (He.frT h.get? (cStatics :: He.asD h.get? n)) = true := congrArg (fun z : AlT => z.2) e
  obtain ⟨h1, h2⟩ := He.ba e2
  have key : ∀ p ∈ tf, PySem.W.codeHdIn (He.frT h.get? (cStatics :: He.asD h.get? n)) (p.c (He.frT h.get? (cStatics :: He.asD h.get? n))).1 (p.c (He.frT h.get? (cStatics :: He.asD h.get? n))).2 = true ∧ ∃ o, h.get? (p.c (He.frT h.get? (cStatics :: He.asD h.get? n))).2 = some o ∧ He.emptyTab o = true := fun p hp => by
    obtain ⟨h3, h4⟩ := He.ba (List.all_eq_true.mp h1 p hp)
    refine ⟨h3, ?_⟩
    cases q : h.get? (p.c (He.frT h.get? (cStatics :: He.asD h.get? n))).2 with
    | none => rw [q] at h4; cases h4
    | some o => rw [q] at h4; exact ⟨o, rfl, h4⟩
  exact ⟨⟨⟨congrArg (fun z : AlZ => z.1.1) e1, congrArg (fun z : AlZ => z.1.2.1) e1, congrArg (fun z : AlZ => z.1.2.2.1) e1, congrArg (fun z : AlZ => z.1.2.2.2) e1⟩, congrArg (fun z : AlZ => z.2.1) e1, congrArg (fun z : AlZ => z.2.2) e1⟩, fun p hp => (key p hp).1,
    fun p hp => let ⟨_, o, q, z⟩ := key p hp; He.frT_none q z, of_decide_eq_true h2, fun p hp => by
      obtain ⟨_, o, q, z⟩ := key p hp
      rw [q, He.emptyTab_eq z]⟩
def hookT (n : Nat) (fa : List He.Fa) (fn : List He.DefD) (ex : List (PySem.W.Frag → Bool)) (xs : List XcD) (gs : List GeD) (sp : List SpD) (tf : List TbD) (file : Str) : PySem.W.Hook where
  α := AlT
  obs := fun s => obsTG n fa fn ex xs gs sp tf file s.heap.get?
  val := fun _ => (((He.valD fn, true, xs.map XcD.val, gs.map GeD.val), true, sp.map SpD.val), true)
  says := fun _ h => ∃ K : PySem.W.Frag, K.In h ∧ SaysT fa fn ex xs gs sp tf file h K
  of := fun _ _ e => ⟨_, He.frT_in, saysT_of e⟩
  keeps := fun _ _ _ ⟨K, hK, c⟩ k => ⟨K, PySem.W.Frag.In.keeps hK k, c.s, c.hd, c.out, c.nd, fun p hp => k _ _ (c.empty p hp)⟩
theorem obsTG_eq {n : Nat} {fa : List He.Fa} {fn : List He.DefD} {ex : List (PySem.W.Frag → Bool)} {xs : List XcD} {gs : List GeD} {sp : List SpD} {tf : List TbD} {file : Str} {g : Addr → Option Obj} {s : Shared} (h : ∀ a, g a = s.heap.get? a) : obsTG n fa fn ex xs gs sp tf file g = (hookT n fa fn ex xs gs sp tf file).obs s := by
  have e : g = s.heap.get? := funext h
  rw [e] <;> rfl
/-- what the law's def promises over the tables -/
abbrev PTm {ι α : Type} (tb : Cs) (A : AR ι) (R : Rep α) (f : ι → Option α) : Sp := PM A (fun _ (_ : Unit) => tb) R fun i _ => uM (f i)
abbrev PTmL {ι α : Type} (tb : Cs) (A : AR ι) (R : Rep α) (f : ι → Option (List α)) : Sp := PML A (fun _ (_ : Unit) => tb) R fun i _ => uM (f i)
abbrev PT1 {κ α ι : Type} (tb : Cs) (A : AR ι) (C : Rep κ) (R : Rep α) (f : List κ → ι → Option (α × List κ)) : Sp := PM (aC rA A) (fun i k => (i.1, cL C k) :: tb) R (fun i k => f k i.2)
abbrev PT1L {κ α ι : Type} (tb : Cs) (A : AR ι) (C : Rep κ) (R : Rep α) (f : List κ → ι → Option (List α × List κ)) : Sp := PML (aC rA A) (fun i k => (i.1, cL C k) :: tb) R (fun i k => f k i.2)
theorem tb_start {K : PySem.W.Frag} {tf : List TbD} {H : Hp} (nd : (tf.map fun p => (p.c K).2).Nodup) (hH : ∀ p ∈ tf.map (TbD.c K), H p.2 = some (.tbl #[])) :
    Wd (fun a => if a ∈ tf.map (fun p => (p.c K).2) then none else H a) H (tf.map (TbD.cel K)) := by
  refine ⟨fun a o h => ?_, fun c hc => ?_, ?_⟩
  · by_cases z : a ∈ tf.map fun p => (p.c K).2
    · rw [if_pos z] at h; cases h
    · rw [if_neg z] at h; exact h
  · obtain ⟨d, hd, rfl⟩ := List.mem_map.mp hc
    refine ⟨if_pos (List.mem_map.mpr ⟨d, hd, rfl⟩), _, hH (d.c K) (List.mem_map_of_mem hd), #[], rfl, ⟨?_, fun p cv h => by cases h⟩⟩
    exact trivial
  · rw [List.map_map]
    exact nd
theorem sql_tb {K : PySem.W.Frag} {tf : List TbD} {H : Hp} {a : Addr} {ys : List V} (hH : ∀ p ∈ tf.map (TbD.c K), H p.2 = some (.tbl #[])) (h : SqL K H a ys) : SqL K (fun a => if a ∈ tf.map (fun p => (p.c K).2) then none else H a) a ys := by
  have hn : ∀ o, H a = some o → (∀ ps, o ≠ .tbl ps) → a ∉ tf.map (fun p => (p.c K).2) := fun o e n z => by
    obtain ⟨d, hd, e2⟩ := List.mem_map.mp z
    have := hH (d.c K) (List.mem_map_of_mem hd)
    rw [show (d.c K).2 = a from e2, e] at this
    exact n #[] (Option.some.inj this)
  rcases h with h | h
  · refine .inl ?_
    rcases h with h | ⟨o, h⟩
    · refine .inl ?_
      show (if _ then _ else _) = _
      rw [if_neg (hn _ h fun _ z => by cases z)]
      exact h
    · refine .inr ⟨o, ?_⟩
      show (if _ then _ else _) = _
      rw [if_neg (hn _ h fun _ z => by cases z)]
      exact h
  · exact .inr h
/-- the law's end with tables -/
theorem lawT {l : PySem.W.OpenLaw} {w : World} {K : PySem.W.Frag} {k n : Nat} {x : Str} {mg : Str → Option Value} {fa : List He.Fa} {fn : List He.DefD} {es : List (PySem.W.Frag → Bool)} {xs : List XcD} {gs : List GeD} {sp : List SpD} {tf : List TbD} {file : Str} {h : Heap} {f : Addr} {fd : FuncData} {m : List Int → Option Bool} (KX : K.In h) (c : SaysT fa fn es xs gs sp tf file h K)
    (hb : ∀ (s : Shared) (u : Value), BindsTo s fd ⟨[u], []⟩ [(x, u)]) (hm : ∀ ns, m ns = some true) (hF : ∀ base : Heap, (∀ p ∈ tf, TabB base mg (p.c K).1 (p.c K).2) → FnOk l.prog w K mg base L2.CX0 k f fd [x] (PTm (tf.map (TbD.cel K)) (aC (rScr K) aN) rB fun i => m i.1)) : LawAtS l w K L2.CX0 k n x mg f h := by
  refine ⟨fd, tf.map (TbD.c K), _, fun p hp => ?_, fun p hp => ?_, fun p hp => ?_, hb, fun H a ns hl hbits hH hS => ?_, fun base hK hns hT => hF base fun p hp => hT (p.c K) (List.mem_map_of_mem hp)⟩
  · obtain ⟨d, hd, rfl⟩ := List.mem_map.mp hp
    exact c.empty d hd
  · obtain ⟨d, hd, rfl⟩ := List.mem_map.mp hp
    exact c.out d hd
  · obtain ⟨d, hd, rfl⟩ := List.mem_map.mp hp
    exact PySem.W.codeHd_of_K KX (c.hd d hd)
  · exact ⟨_, (ns, ()), (), true, (), ⟨.ref a, [], rfl, ⟨a, rfl, sql_tb hH hS⟩, rfl⟩, tb_start c.nd hH, uM_to (hm ns), fun v H2 G2 fr w2 hv => hv⟩
end Sim

/-! a for over a list that is a cell and stays as it is; and in a test that changes cells -/
namespace Sim
open PySem L2 Evl
def cF {α : Type} (vs : List V) (R : Rep α) (xs : List α) : CP := ⟨fun G o => o = .lst vs ∧ Paired (R.r G) vs xs, fun e ⟨h1, h2⟩ => ⟨h1, Paired.mapP h2 fun _ _ => R.mono e⟩⟩
section
variable {K : PySem.W.Frag} {σ : L2.St} {G0 H0 G H G2 H2 : Hp} {ls : List Addr} {cs : Cs} {l : Addr} {cp cp' : CP} {tu tz : TS} {t u : TT} {g : TG} {D : Ends} {α : Type} {R : Rep α}
theorem Wo.reAt {j : Nat} (w : Wo G0 H0 ls G H cs) (h : cs[j]? = some (l, cp)) (k : ∀ o, H l = some o → cp.p G o → cp'.p G o) : Wo G0 H0 ls G H (cs.set j (l, cp')) := by
  have hm : (cs.set j (l, cp')).map (·.1) = cs.map (·.1) := set_map (c := (l, cp)) h
  have key : ∀ c ∈ cs.set j (l, cp'), c = (l, cp') ∨ c ∈ cs := fun c hc => (List.mem_or_eq_of_mem_set hc).elim .inr .inl
  have lm : (l, cp) ∈ cs := List.mem_of_getElem? h
  refine ⟨⟨w.ex, fun c hc => ?_, by rw [hm]; exact w.w.nd⟩, w.f, fun c hc => ?_⟩
  · rcases key c hc with rfl | z
    · obtain ⟨h1, o, h2, h3⟩ := w.w.at_ _ lm
      exact ⟨h1, o, h2, k o h2 h3⟩
    · exact w.w.at_ c z
  · rcases key c hc with rfl | z
    · show l ∈ ls ∨ H0 l = none
      exact w.lo (l, cp) lm
    · exact w.lo c z
theorem Wo.fixAt {j : Nat} {xs : List α} (w : Wo G0 H0 ls G H cs) (h : cs[j]? = some (l, cL R xs)) : ∃ vs, Wo G0 H0 ls G H (cs.set j (l, cF vs R xs)) := by
  obtain ⟨h1, o, h2, vs, rfl, h4⟩ := w.w.getAt h
  exact ⟨vs, w.reAt h fun o e _ => by rw [h2] at e; cases e; exact ⟨rfl, h4⟩⟩
theorem Wo.unfixAt {j : Nat} {vs : List V} {xs : List α} (w : Wo G0 H0 ls G H cs) (h : cs[j]? = some (l, cF vs R xs)) : Wo G0 H0 ls G H (cs.set j (l, cL R xs)) := w.reAt h fun o _ ⟨e, z⟩ => ⟨vs, e, z⟩
theorem x_forC {i j : Nat} {vs : List V} {xs : List α} (w : Wo G0 H0 ls G H cs) (hj : cs[j]? = some (l, cF vs R xs)) (hi : σ[i]? = some (some (.ref l))) (P : Nat → Hp → Hp → L2.St → Prop) (hP : ∀ i G' H' σ', P i G' H' σ' → ∃ cs', Wo G0 H0 ls G' H' cs' ∧ cs'[j]? = some (l, cF vs R xs))
    (h0 : P 0 G H σ)
    (hs : ∀ i x v σ' G' H', xs[i]? = some x → P i G' H' σ' → R.r G' v x → g v σ' H' fun σ2 H2 => tu { D with nx := fun σ' H' => ∃ G', P (i + 1) G' H' σ', ct := fun σ' H' => ∃ G', P (i + 1) G' H' σ', bk := tz D } σ2 H2)
    (hd : ∀ σ' G' H', P xs.length G' H' σ' → tz D σ' H') : tSeq (tFor (iList K (tVar i)) g tu) tz D σ H := by
  obtain ⟨_, o, h2, rfl, h3⟩ := w.w.getAt hj
  refine ⟨.ref l, hi, l, rfl, ⟨vs, Or.inl (Or.inl h2)⟩, for_list (K := K) (a := l) (xs := vs) (D := { D with nx := tz D }) (fun i σ' H' => ∃ G', P i G' H' σ') ⟨G, h0⟩ ?_ ?_ ?_⟩
  · rintro i σ' H' _ ⟨G', p⟩
    obtain ⟨cs', w', hj'⟩ := hP _ _ _ _ p
    obtain ⟨_, o, h2', rfl, _⟩ := w'.w.getAt hj'
    exact Or.inl (Or.inl h2')
  · rintro i y σ' H' hy ⟨G', p⟩
    obtain ⟨cs', w', hj'⟩ := hP _ _ _ _ p
    obtain ⟨_, o, h2', rfl, h3'⟩ := w'.w.getAt hj'
    obtain ⟨x, hx, r⟩ := pr_get' h3' hy
    exact hs i x y σ' G' H' hx p r
  · rintro σ' H' ⟨G', p⟩
    rw [h3.length] at p
    exact hd σ' G' H' p
def DnAll : Cs → Prop
  | [] => True
  | c :: cs => DnC c.2 ∧ DnAll cs
theorem DnAll.at_ : ∀ {cs : Cs}, DnAll cs → ∀ c ∈ cs, DnC c.2
  | _ :: _, ⟨h1, h2⟩, c, h => by
    rcases List.mem_cons.mp h with e | e
    · rw [e]; exact h1
    · exact DnAll.at_ h2 c e
theorem o_and {Q : Bool → Hp → Prop} (h : t σ H fun b H1 => if b = true then u σ H1 Q else Q false H1) : tAnd t u σ H Q := h
end
end Sim

set_option maxHeartbeats 4000000
namespace My
open PySem PySem.Spec PyProof.Rows L2 Sim
theorem be1 {α β : Type} {x : Option α} {f : α → Option β} : (x >>= f) = Option.bind x f := Eq.trans (show (x >>= f) = Option.bind x f from rfl) (Eq.refl _)
theorem bs1 {α β : Type} {a : α} {f : α → Option β} : Option.bind (some a) f = f a := Eq.trans (Option.bind_some a f) (Eq.refl _)
theorem bifT {α : Type} {a b c : α} (h : (bif true then a else b) = c) : a = c := h
theorem bifF {α : Type} {a b c : α} (h : (bif false then a else b) = c) : b = c := h
theorem elimL {α β γ : Type} {f : α → γ} {g : β → γ} {a : α} {c : γ} (h : Sum.elim f g (Sum.inl a) = c) : f a = c := h
theorem ba1 {α β γ : Type} {x : Option α} {f : α → Option β} {g : β → Option γ} : Option.bind (Option.bind x f) g = Option.bind x fun y => Option.bind (f y) g := Option.bind_assoc ..
def top (i : Nat) : Stmt := PySem.Challenge.pw_askedpoints_k25_values_clash_shown_by_ta.main.body.getD i (.Pass ⟨0, 0, 0, 0⟩)
abbrev s__wall : Stmt := top 0
abbrev s_Record___init__ : Stmt := inClass (top 10) 1
abbrev s_Record_asked : Stmt := inClass (top 10) 2
abbrev s_Record_answer : Stmt := inClass (top 10) 3
abbrev s_Record_under : Stmt := inClass (top 10) 4
abbrev s_Record_over : Stmt := inClass (top 10) 5
abbrev s_Record_matches : Stmt := inClass (top 10) 6
abbrev s_Record_written : Stmt := inClass (top 10) 7
abbrev s_Record___eq__ : Stmt := inClass (top 10) 8
abbrev s_same_start : Stmt := top 12
abbrev s_shape_clash : Stmt := top 13
abbrev s_falls : Stmt := top 14
abbrev s_clash : Stmt := top 15
abbrev s_closure : Stmt := top 17
abbrev s_turned : Stmt := top 18
abbrev s_least_above : Stmt := top 19
abbrev s_bounds_table : Stmt := top 20
abbrev s_first_ring : Stmt := top 21
abbrev s_first_lack : Stmt := top 22
abbrev s_longest : Stmt := top 23
abbrev s_neighbours : Stmt := top 24
abbrev s_Order___init__ : Stmt := inClass (top 26) 1
abbrev s_Order_chain : Stmt := inClass (top 26) 2
abbrev s_Order_flat : Stmt := inClass (top 26) 3
abbrev s_Order_marks : Stmt := inClass (top 26) 4
abbrev s_Order__require : Stmt := inClass (top 26) 5
abbrev s_Order_below : Stmt := inClass (top 26) 6
abbrev s_Order_join_of : Stmt := inClass (top 26) 7
abbrev s_Order_meet_of : Stmt := inClass (top 26) 8
abbrev s_Order_join_all : Stmt := inClass (top 26) 9
abbrev s_Order_meet_all : Stmt := inClass (top 26) 10
abbrev s_Order_covers : Stmt := inClass (top 26) 11
abbrev s_Order_least : Stmt := inClass (top 26) 12
abbrev s_Order_greatest : Stmt := inClass (top 26) 13
abbrev s_Order_height : Stmt := inClass (top 26) 14
abbrev s_Order___len__ : Stmt := inClass (top 26) 15
abbrev s_Order___contains__ : Stmt := inClass (top 26) 16
abbrev s_Order___iter__ : Stmt := inClass (top 26) 17
abbrev s_Order___eq__ : Stmt := inClass (top 26) 18
abbrev s_Order___mul__ : Stmt := inClass (top 26) 19
abbrev s_Order___add__ : Stmt := inClass (top 26) 20
abbrev s_Order___invert__ : Stmt := inClass (top 26) 21
abbrev s__law_pot : Stmt := top 28
abbrev s__law_draw : Stmt := top 29
abbrev s__law_masks : Stmt := top 30
abbrev s__law_under : Stmt := top 31
abbrev s__law_pairs : Stmt := top 32
abbrev s__law_names : Stmt := top 33
abbrev s__law_nodes : Stmt := top 34
abbrev s__law_run : Stmt := top 35
abbrev s__law_look : Stmt := top 36
abbrev s__law_tables : Stmt := top 37
abbrev s__law_parted : Stmt := top 38
abbrev s__law_evaluated : Stmt := top 39
abbrev s_law : Stmt := top 40
def d_Record___init__ : He.DefD := ⟨("Record", some "__init__"), "__init__", "Record.__init__", defArgs s_Record___init__, defBody s_Record___init__, defScope s_Record___init__, [], []⟩
def d_Record_answer : He.DefD := ⟨("Record", some "answer"), "answer", "Record.answer", defArgs s_Record_answer, defBody s_Record_answer, defScope s_Record_answer, [], []⟩
def d_same_start : He.DefD := ⟨("same_start", none), "same_start", "same_start", defArgs s_same_start, defBody s_same_start, defScope s_same_start, [], []⟩
def d_shape_clash : He.DefD := ⟨("shape_clash", none), "shape_clash", "shape_clash", defArgs s_shape_clash, defBody s_shape_clash, defScope s_shape_clash, [], []⟩
def d_falls : He.DefD := ⟨("falls", none), "falls", "falls", defArgs s_falls, defBody s_falls, defScope s_falls, [], []⟩
def d_clash : He.DefD := ⟨("clash", none), "clash", "clash", defArgs s_clash, defBody s_clash, defScope s_clash, [], []⟩
def d_closure : He.DefD := ⟨("closure", none), "closure", "closure", defArgs s_closure, defBody s_closure, defScope s_closure, [], []⟩
def d_turned : He.DefD := ⟨("turned", none), "turned", "turned", defArgs s_turned, defBody s_turned, defScope s_turned, [], []⟩
def d_least_above : He.DefD := ⟨("least_above", none), "least_above", "least_above", defArgs s_least_above, defBody s_least_above, defScope s_least_above, [], []⟩
def d_bounds_table : He.DefD := ⟨("bounds_table", none), "bounds_table", "bounds_table", defArgs s_bounds_table, defBody s_bounds_table, defScope s_bounds_table, [], []⟩
def d_first_ring : He.DefD := ⟨("first_ring", none), "first_ring", "first_ring", defArgs s_first_ring, defBody s_first_ring, defScope s_first_ring, [], []⟩
def d_first_lack : He.DefD := ⟨("first_lack", none), "first_lack", "first_lack", defArgs s_first_lack, defBody s_first_lack, defScope s_first_lack, [], []⟩
def d_longest : He.DefD := ⟨("longest", none), "longest", "longest", defArgs s_longest, defBody s_longest, defScope s_longest, [], []⟩
def d_neighbours : He.DefD := ⟨("neighbours", none), "neighbours", "neighbours", defArgs s_neighbours, defBody s_neighbours, defScope s_neighbours, [], []⟩
def d_Order___init__ : He.DefD := ⟨("Order", some "__init__"), "__init__", "Order.__init__", defArgs s_Order___init__, defBody s_Order___init__, defScope s_Order___init__, [], []⟩
def d_Order__require : He.DefD := ⟨("Order", some "_require"), "_require", "Order._require", defArgs s_Order__require, defBody s_Order__require, defScope s_Order__require, [], []⟩
def d_Order_below : He.DefD := ⟨("Order", some "below"), "below", "Order.below", defArgs s_Order_below, defBody s_Order_below, defScope s_Order_below, [], []⟩
def d__law_pot : He.DefD := ⟨("_law_pot", none), "_law_pot", "_law_pot", defArgs s__law_pot, defBody s__law_pot, defScope s__law_pot, [], []⟩
def d__law_draw : He.DefD := ⟨("_law_draw", none), "_law_draw", "_law_draw", defArgs s__law_draw, defBody s__law_draw, defScope s__law_draw, [], []⟩
def d__law_masks : He.DefD := ⟨("_law_masks", none), "_law_masks", "_law_masks", defArgs s__law_masks, defBody s__law_masks, defScope s__law_masks, [], []⟩
def d__law_under : He.DefD := ⟨("_law_under", none), "_law_under", "_law_under", defArgs s__law_under, defBody s__law_under, defScope s__law_under, [], []⟩
def d__law_pairs : He.DefD := ⟨("_law_pairs", none), "_law_pairs", "_law_pairs", defArgs s__law_pairs, defBody s__law_pairs, defScope s__law_pairs, [], []⟩
def d__law_names : He.DefD := ⟨("_law_names", none), "_law_names", "_law_names", defArgs s__law_names, defBody s__law_names, defScope s__law_names, [], []⟩
def d__law_nodes : He.DefD := ⟨("_law_nodes", none), "_law_nodes", "_law_nodes", defArgs s__law_nodes, defBody s__law_nodes, defScope s__law_nodes, [], []⟩
def d__law_run : He.DefD := ⟨("_law_run", none), "_law_run", "_law_run", defArgs s__law_run, defBody s__law_run, defScope s__law_run, [], []⟩
def d__law_look : He.DefD := ⟨("_law_look", none), "_law_look", "_law_look", defArgs s__law_look, defBody s__law_look, defScope s__law_look, [], []⟩
def d__law_tables : He.DefD := ⟨("_law_tables", none), "_law_tables", "_law_tables", defArgs s__law_tables, defBody s__law_tables, defScope s__law_tables, [], []⟩
def d__law_parted : He.DefD := ⟨("_law_parted", none), "_law_parted", "_law_parted", defArgs s__law_parted, defBody s__law_parted, defScope s__law_parted, [], []⟩
def d__law_evaluated : He.DefD := ⟨("_law_evaluated", none), "_law_evaluated", "_law_evaluated", defArgs s__law_evaluated, defBody s__law_evaluated, defScope s__law_evaluated, [], []⟩
def d_law : He.DefD := ⟨("law", none), "law", "law", defArgs s_law, defBody s_law, defScope s_law, [], []⟩
def fn : List He.DefD := [d_Record___init__, d_Record_answer, d_same_start, d_shape_clash, d_falls, d_clash, d_closure, d_turned, d_least_above, d_bounds_table, d_first_ring, d_first_lack, d_longest, d_neighbours, d_Order___init__, d_Order__require, d_Order_below, d__law_pot, d__law_draw, d__law_masks, d__law_under, d__law_pairs, d__law_names, d__law_nodes, d__law_run, d__law_look, d__law_tables, d__law_parted, d__law_evaluated, d_law]
def fa : List He.Fa := [.glo "_wall", .glo "AskedError", .glo "BadSize", .glo "NotElement", .glo "Ring", .glo "NoJoin", .glo "NoMeet", .glo "AskedTwice", .glo "Record", .glo "same_start", .glo "shape_clash", .glo "falls", .glo "clash", .glo "closure", .glo "turned", .glo "least_above", .glo "bounds_table", .glo "first_ring", .glo "first_lack", .glo "longest", .glo "neighbours", .glo "Order", .glo "_law_pot", .glo "_law_draw", .glo "_law_masks", .glo "_law_under", .glo "_law_pairs", .glo "_law_names", .glo "_law_nodes", .glo "_law_run", .glo "_law_look", .glo "_law_tables", .glo "_law_parted", .glo "_law_evaluated", .glo "law", .free "super", .free "range", .free "len", .free "max", .free "list", .free "min", .free "abs", .free "int", .free "sorted", .free "tuple", .free "zip", .free "dict", .free "all", .cls "Order", .noat "Order" "_above", .noat "Order" "_joins", .noat "Order" "_meets", .noat "Order" "_members", .noat "Order" "_height", .meth "Order" "_require", .meth "Record" "answer", .meth "Order" "below", .mkr "Order", .mkr "Record"]
def ex : List (PySem.W.Frag → Bool) := [fun K => He.conB K "Order" "MOST" (.int 12), sclB "Record", slotB "Record" "name" 1, slotB "Record" "asks" 0, slotB "Record" "result" 2]
def P : Program := (PySem.Challenge.rw_askedpoints_k25_values_clash_shown_by_ta).prog
def xs : List XcD := []
def gs : List GeD := []
abbrev Tx (K : PySem.W.Frag) (mg : Str → Option Value) : Prop := TxX fa fn ex xs gs P.main.file K mg
def t__law_evaluated : TbD := ⟨("_law_evaluated", none), "_law_evaluated.<locals>.<lambda>"⟩
def tf : List TbD := [t__law_evaluated]
abbrev tb (K : PySem.W.Frag) : Cs := tf.map (TbD.cel K)
def sp : List SpD := []
structure m_Order where
  f_above : (List (List Bool))
  f_joins : (List (List (Option Int)))
  f_meets : (List (List (Option Int)))
  f_members : (List Int)
  f_height : Int
deriving DecidableEq
abbrev ns_Order : List Str := ["_above", "_joins", "_meets", "_members", "_height"]
def fl_Order (K : PySem.W.Frag) (o : m_Order) : List Pd := [pd (rL (rL rB)) o.f_above, pd (rL (rL (rO rI))) o.f_joins, pd (rL (rL (rO rI))) o.f_meets, pd (rL rI) o.f_members, pd rI o.f_height]
abbrev r_Order (K : PySem.W.Frag) : Rep m_Order := rObj (He.ga K "Order") ns_Order (fl_Order K)
structure m_Record where
  name : Str
  asks : (List (Str × Int))
  result : Int
deriving DecidableEq
def fl_Record (K : PySem.W.Frag) (o : m_Record) : Ps := [(1, pd rS o.name), (0, pd (rT (rP rS rI)) o.asks), (2, pd rI o.result)]
abbrev r_Record (K : PySem.W.Frag) : Rep m_Record := rSl (He.ga K "Record") (fl_Record K)
section
variable {w : World} {K : PySem.W.Frag} {mg : Str → Option Value} {base : Heap}
theorem fr_super (T : Tx K mg) : mg "super" = none := T.free 35 rfl
theorem fr_range (T : Tx K mg) : mg "range" = none := T.free 36 rfl
theorem fr_len (T : Tx K mg) : mg "len" = none := T.free 37 rfl
theorem fr_max (T : Tx K mg) : mg "max" = none := T.free 38 rfl
theorem fr_list (T : Tx K mg) : mg "list" = none := T.free 39 rfl
theorem fr_min (T : Tx K mg) : mg "min" = none := T.free 40 rfl
theorem fr_abs (T : Tx K mg) : mg "abs" = none := T.free 41 rfl
theorem fr_int (T : Tx K mg) : mg "int" = none := T.free 42 rfl
theorem fr_sorted (T : Tx K mg) : mg "sorted" = none := T.free 43 rfl
theorem fr_tuple (T : Tx K mg) : mg "tuple" = none := T.free 44 rfl
theorem fr_zip (T : Tx K mg) : mg "zip" = none := T.free 45 rfl
theorem fr_dict (T : Tx K mg) : mg "dict" = none := T.free 46 rfl
theorem fr_all (T : Tx K mg) : mg "all" = none := T.free 47 rfl
def m_closure_b1 (size0 : Int) (x34 : (Int × Int)) (s23 : (List Bool)) : Option (List Bool) :=
  (some true >>= fun a47 => (mulM x34.1 size0 >>= fun t46 => some (t46 + x34.2)) >>= fun i48 => setM s23 i48 a47 >>= fun cells_49 => some (cells_49))
def m_closure_b2 (size0 : Int) (x117 : Int) (s103 : (List (List Bool))) : Option (List (List Bool)) :=
  ((rngM 0 size0 >>= fun xs138 => mapS (fun x124 => (rngM 0 size0 >>= fun xs137 => mapS (fun x130 => (orO ((atI s103 x124 >>= fun t133 => atI t133 x130)) ((andO ((atI s103 x124 >>= fun t135 => atI t135 x117)) ((atI s103 x117 >>= fun t136 => atI t136 x130)))))) xs137)) xs138) >>= fun rows_139 => some (rows_139))
def m_closure (size0 : Int) (pairs0 : (List (Int × Int))) : Option (List (List Bool)) :=
  ((mulM size0 size0 >>= fun t8 => (rngM 0 t8 >>= fun xs7 => mapS (fun x4 => some false) xs7)) >>= fun cells_9 => (some pairs0 >>= fun xs18 => forS (m_closure_b1 size0) xs18 cells_9 >>= fun s23 => ((rngM 0 size0 >>= fun xs85 => mapS (fun x73 => (rngM 0 size0 >>= fun xs84 => mapS (fun x79 => (orO (some (x73 == x79)) (((mulM x73 size0 >>= fun t82 => some (t82 + x79)) >>= fun t83 => atI s23 t83)))) xs84)) xs85) >>= fun rows_86 => (some size0 >>= fun n96 => rngM 0 n96 >>= fun xs98 => forS (m_closure_b2 size0) xs98 rows_86 >>= fun s103 => (some s103 >>= fun a157 => some a157)))))
theorem sc_closure : FnScope ["size", "pairs", "cells", "rows", "m", "low", "high", "_", "a", "b"] ["size", "pairs"] (defScope s_closure) := ⟨rfl, rfl, rfl, by decide +kernel, rfl, by decide +kernel, by decide +kernel⟩
theorem ok_closure (T : Tx K mg) : Fk P w K mg base CX0 1 "closure" ["size", "pairs"] (PF (aC rI (aC (rL (rP rI rI)) aN)) (rL (rL rB)) (fun i => m_closure i.1 i.2.1)) := by
  obtain ⟨fd, F⟩ := T.def_ 6 rfl
  have nd := sc_closure.nd
  refine fk_mk T.toTx (x := "closure") (T.glo 13 rfl) F (fun _ _ _ _ _ _ us hl => match us, hl with | [_, _], _ => rfl) (F.ok sc_closure (fun vs H Q E h => ?_) (fun cdv A outer s H vs Q E hr h => ?_))
  · obtain ⟨G, ⟨size0, pairs0, ⟨⟩⟩, r, e0, ⟨vsize0, _, rfl, hsize0, vpairs0, _, rfl, hpairs0, rfl⟩, h, k⟩ := h
    rfl
  · obtain ⟨G, ⟨size0, pairs0, ⟨⟩⟩, r, e0, ⟨vsize0, _, rfl, hsize0, vpairs0, _, rfl, hpairs0, rfl⟩, h, k⟩ := h
    cases hsize0
    have w0 := Wo.start e0
    have h : m_closure size0 pairs0 = some r := h
    unfold m_closure at h
    refine ⟨_, PSs.nox (pss_cons (ps_set (i := 2) nd rfl (Or.inr rfl) (pe_lc (own := [("_", 7)]) (by rfl) nd (pi_range1 (by rfl) (fr_range T) (pa_cons (pe_op op_mul (pv 0) (pv 0)) pa_nil)) (blkOk_by (by kernel_rfl)) (fun _ _ _ _ _ => pg_name (i := 7) nd rfl (by first | exact Or.inl rfl | exact Or.inr rfl)) (fun _ _ _ _ _ => pts_nil) (fun _ _ _ _ _ => pe_bl))) (pss_cons (ps_for PassesOwn.never rfl (pi_list (pv 1)) (pg_tup (by rfl) (pgs_cons (pg_name (i := 5) nd rfl (by first | exact Or.inl rfl | exact Or.inr rfl)) (pgs_cons (pg_name (i := 6) nd rfl (by first | exact Or.inl rfl | exact Or.inr rfl)) pgs_nil))) (pss_cons (ps_asg pe_bl (pg_sub (pv 2) (pe_op op_add (pe_op op_mul (pv 5) (pv 0)) (pv 6)) set_list)) pss_nil)) (pss_cons (ps_set (i := 3) nd rfl (Or.inr rfl) (pe_lc (own := [("a", 8)]) (by rfl) nd (pi_range1 (by rfl) (fr_range T) (pa_cons (pv 0) pa_nil)) (blkOk_by (by kernel_rfl)) (fun _ _ _ _ _ => pg_name (i := 8) nd rfl (by first | exact Or.inl rfl | exact Or.inr rfl)) (fun _ _ _ _ _ => pts_nil) (fun _ _ _ _ _ => (pe_lc (own := [("b", 9)]) (by rfl) nd (pi_range1 (by rfl) (fr_range T) (pa_cons (pv 0) pa_nil)) (blkOk_by (by kernel_rfl)) (fun _ _ _ _ _ => pg_name (i := 9) nd rfl (by first | exact Or.inl rfl | exact Or.inr rfl)) (fun _ _ _ _ _ => pts_nil) (fun _ _ _ _ _ => (pe_or (pe_cmpR op_eq (pv 8) (pv 9) (nomark _)) (pe_one (pe_ix (r := rIxL K) ix_list (pv 2) (pe_op op_add (pe_op op_mul (pv 8) (pv 0)) (pv 9)) (fun _ _ => rfl))))))))) (pss_cons (ps_for PassesOwn.never rfl (pi_range1 (by rfl) (fr_range T) (pa_cons (pv 0) pa_nil)) (pg_name (i := 4) nd rfl (Or.inr rfl)) (pss_cons (ps_set (i := 3) nd rfl (Or.inr rfl) (pe_lc (own := [("a", 8)]) (by rfl) nd (pi_range1 (by rfl) (fr_range T) (pa_cons (pv 0) pa_nil)) (blkOk_by (by kernel_rfl)) (fun _ _ _ _ _ => pg_name (i := 8) nd rfl (by first | exact Or.inl rfl | exact Or.inr rfl)) (fun _ _ _ _ _ => pts_nil) (fun _ _ _ _ _ => (pe_lc (own := [("b", 9)]) (by rfl) nd (pi_range1 (by rfl) (fr_range T) (pa_cons (pv 0) pa_nil)) (blkOk_by (by kernel_rfl)) (fun _ _ _ _ _ => pg_name (i := 9) nd rfl (by first | exact Or.inl rfl | exact Or.inr rfl)) (fun _ _ _ _ _ => pts_nil) (fun _ _ _ _ _ => (pe_or (pe_ix (r := rIxL K) ix_list (pe_ix (r := rIxL K) ix_list (pv 3) (pv 8) (fun _ _ => rfl)) (pv 9) (fun _ _ => rfl)) (pe_one (pe_and (pe_ix (r := rIxL K) ix_list (pe_ix (r := rIxL K) ix_list (pv 3) (pv 8) (fun _ _ => rfl)) (pv 4) (fun _ _ => rfl)) (pe_one (pe_ix (r := rIxL K) ix_list (pe_ix (r := rIxL K) ix_list (pv 3) (pv 4) (fun _ _ => rfl)) (pv 9) (fun _ _ => rfl))))))))))) pss_nil)) (pss_cons (ps_ret (pv 3)) pss_nil))))), ?_⟩
    obtain ⟨cells_9, hx10, h⟩ := bindS h
    refine x_setL w0 (el_mapR (el_lcR (j := 7) (ea_cons (e_op rr_mul (e_var (R := rI) (x := size0) rfl rfl) (e_var (R := rI) (x := size0) rfl rfl)) ea_nil) (fun _ => rfl) (fun _ _ _ _ _ _ => et_yes) (fun x4 G5 W6 eG1 eW2 eX3 => e_bl))) (by first | (simp only [be1, bs1, ba1] at hx10 ⊢; exact hx10) | exact hx10) ?_
    intro p13 H11 G14 n15 w12 e16
    have h17 := Rep.mono _ e16 hpairs0
    obtain ⟨xs18, hx19, h⟩ := bindS h
    obtain ⟨t21, hx22, h⟩ := bindS h
    refine x_forL w12 (e_var (R := (rL (rP rI rI))) (x := pairs0) rfl h17) hx19 (fun i G' H' σ' => ∃ s23 : (List Bool), ∃ u24 : Option V, ∃ u25 : Option V, Wo G H [] G' H' [(p13, cL rB s23)] ∧ Evl.Ex G14 G' ∧ σ' = [some (V.int size0), some vpairs0, some (V.ref p13), none, none, u25, u24, none, none, none] ∧ forS (m_closure_b1 size0) (xs18.drop i) s23 = some t21) (fun _ _ _ _ ⟨_, _, _, w, _⟩ => w.ex) ?_ ?_ ?_
    · intro G' H' w' e'
      exact ⟨cells_9, (none), (none), w', e', rfl, hx22⟩
    · rintro G36 e37 i33 x34 v38 σ' G29 H32 hx35 e40 ⟨s23, u24, u25, w30, e31, rfl, hm27⟩ r39
      obtain ⟨q28, hb26, hm27⟩ := forS_at hx35 hm27
      have h41 := Rep.mono _ e31 h17
      refine g_pair (i := 5) (j := 6) r39 w30.ex ?_
      intro v42 v43 r44 r45
      cases r44
      cases r45
      unfold m_closure_b1 at hb26
      obtain ⟨a47, hx50, hb26⟩ := bindS hb26
      obtain ⟨i48, hx51, hb26⟩ := bindS hb26
      obtain ⟨cells_49, hx52, hb26⟩ := bindS hb26
      refine x_setIx (j := 0) w30 rfl rfl e_bl (by first | (simp only [be1, bs1, ba1] at hx50 ⊢; exact hx50) | exact hx50) (e_op rr_add (e_op rr_mul (e_var (R := rI) (x := x34.1) rfl rfl) (e_var (R := rI) (x := size0) rfl rfl)) (e_var (R := rI) (x := x34.2) rfl rfl)) (by first | (simp only [be1, bs1, ba1] at hx51 ⊢; exact hx51) | exact hx51) hx52 ?_
      intro H53 G54 w55 e56
      have h57 := Rep.mono _ e56 h41
      have w55 : Wo G H [] G54 H53 [(p13, cL rB cells_49)] := w55
      refine x_next ?_
      have hb26 : cells_49 = q28 := Option.some.inj hb26
      subst hb26
      exact ⟨G54, (e40.trans e56), cells_49, (some (V.int x34.2)), (some (V.int x34.1)), w55, (e31.trans e56), rfl, hm27⟩
    · rintro σ' G58 H61 e62 ⟨s23, u24, u25, w59, e60, rfl, hm27⟩
      have hm27 := forS_end hm27
      subst hm27
      have h64 := Rep.mono _ e60 h17
      obtain ⟨G65, w66, e67, h68⟩ := w59.freezeAt (i := 0) rfl n15
      have h69 := Rep.mono _ e67 h64
      have w66 : Wo G H [] G65 H61 [] := w66
      obtain ⟨rows_86, hx87, h⟩ := bindS h
      refine x_set w66 (EL.e (el_mapR (el_lcR (j := 8) (ea_cons (e_var (R := rI) (x := size0) rfl rfl) ea_nil) (fun _ => rfl) (fun _ _ _ _ _ _ => et_yes) (fun x73 G74 W75 eG70 eW71 eX72 => (EL.e (el_mapR (el_lcR (j := 9) (ea_cons (e_var (R := rI) (x := size0) rfl rfl) ea_nil) (fun _ => rfl) (fun _ _ _ _ _ _ => et_yes) (fun x79 G80 W81 eG76 eW77 eX78 => (e_orV (e_op rr_eqI (e_var (R := rI) (x := x73) rfl rfl) (e_var (R := rI) (x := x79) rfl rfl)) (e_op rr_ixL (e_var (R := (rL rB)) (x := s23) rfl (Rep.mono _ eG76 (Rep.mono _ eG70 h68))) (e_op rr_add (e_op rr_mul (e_var (R := rI) (x := x73) rfl rfl) (e_var (R := rI) (x := size0) rfl rfl)) (e_var (R := rI) (x := x79) rfl rfl)))))))))))) (by first | (simp only [be1, bs1, ba1] at hx87 ⊢; exact hx87) | exact hx87) ?_
      intro v90 H88 G91 w89 e92 h93
      have h94 := Rep.mono _ e92 h69
      have h95 := Rep.mono _ e92 h68
      obtain ⟨n96, hx97, h⟩ := bindS h
      obtain ⟨xs98, hx99, h⟩ := bindS h
      obtain ⟨t101, hx102, h⟩ := bindS h
      refine x_forR w89 (ea_cons (Sim.E.is (e_var (R := rI) (x := size0) rfl rfl) hx97) ea_nil) rfl hx99 (fun i G' H' σ' => ∃ s103 : (List (List Bool)), ∃ v104 : V, ∃ u106 : Option V, ∃ u107 : Option V, ∃ u108 : Option V, Wo G H [] G' H' [] ∧ Evl.Ex G91 G' ∧ σ' = [some (V.int size0), some vpairs0, some (V.ref p13), some v104, u108, u25, u24, none, u106, u107] ∧ (rL (rL rB)).r G' v104 s103 ∧ forS (m_closure_b2 size0) (xs98.drop i) s103 = some t101) ?_ ?_ ?_
      · intro G' H' w' e'
        exact ⟨rows_86, v90, (none), (none), (none), w', e', rfl, (Rep.mono _ e' h93), hx102⟩
      · rintro i116 x117 σ' G112 H115 hx118 ⟨s103, v104, u106, u107, u108, w113, e114, rfl, h105, hm110⟩
        obtain ⟨q111, hb109, hm110⟩ := forS_at hx118 hm110
        have h119 := Rep.mono _ e114 h94
        have h120 := Rep.mono _ e114 h95
        refine g_name ?_
        unfold m_closure_b2 at hb109
        obtain ⟨rows_139, hx140, hb109⟩ := bindS hb109
        refine x_set w113 (EL.e (el_mapR (el_lcR (j := 8) (ea_cons (e_var (R := rI) (x := size0) rfl rfl) ea_nil) (fun _ => rfl) (fun _ _ _ _ _ _ => et_yes) (fun x124 G125 W126 eG121 eW122 eX123 => (EL.e (el_mapR (el_lcR (j := 9) (ea_cons (e_var (R := rI) (x := size0) rfl rfl) ea_nil) (fun _ => rfl) (fun _ _ _ _ _ _ => et_yes) (fun x130 G131 W132 eG127 eW128 eX129 => (e_orV (e_op rr_ixL (e_op rr_ixL (e_var (R := (rL (rL rB))) (x := s103) rfl (Rep.mono _ eG127 (Rep.mono _ eG121 h105))) (e_var (R := rI) (x := x124) rfl rfl)) (e_var (R := rI) (x := x130) rfl rfl)) (e_andV (e_op rr_ixL (e_op rr_ixL (e_var (R := (rL (rL rB))) (x := s103) rfl (Rep.mono _ eG127 (Rep.mono _ eG121 h105))) (e_var (R := rI) (x := x124) rfl rfl)) (e_var (R := rI) (x := x117) rfl rfl)) (e_op rr_ixL (e_op rr_ixL (e_var (R := (rL (rL rB))) (x := s103) rfl (Rep.mono _ eG127 (Rep.mono _ eG121 h105))) (e_var (R := rI) (x := x117) rfl rfl)) (e_var (R := rI) (x := x130) rfl rfl)))))))))))) (by first | (simp only [be1, bs1, ba1] at hx140 ⊢; exact hx140) | exact hx140) ?_
        intro v143 H141 G144 w142 e145 h146
        have h147 := Rep.mono _ e145 h119
        have h148 := Rep.mono _ e145 h120
        have h149 := Rep.mono _ e145 h105
        refine x_next ?_
        have hb109 : rows_139 = q111 := Option.some.inj hb109
        subst hb109
        exact ⟨G144, rows_139, v143, (u106), (u107), (some (V.int x117)), w142, (e114.trans e145), rfl, h146, hm110⟩
      · rintro σ' G150 H153 ⟨s103, v104, u106, u107, u108, w151, e152, rfl, h105, hm110⟩
        have hm110 := forS_end hm110
        subst hm110
        have h155 := Rep.mono _ e152 h94
        have h156 := Rep.mono _ e152 h95
        obtain ⟨a157, hx158, h⟩ := bindS h
        have h : a157 = r := Option.some.inj h
        subst h
        exact x_ret w151 (e_var (R := (rL (rL rB))) (x := s103) rfl h105) hx158 (fun v9 H9 G9 w9 e9 r9 => k v9 H9 G9 w9.upE r9)
def m_turned (rows0 : (List (List Bool))) : Option (List (List Bool)) :=
  ((rngM 0 (rows0.length : Int) >>= fun xs173 => mapS (fun x162 => (rngM 0 (rows0.length : Int) >>= fun xs172 => mapS (fun x168 => (atI rows0 x168 >>= fun t171 => atI t171 x162)) xs172)) xs173) >>= fun a174 => some a174)
theorem sc_turned : FnScope ["rows", "a", "b"] ["rows"] (defScope s_turned) := ⟨rfl, rfl, rfl, by decide +kernel, rfl, by decide +kernel, by decide +kernel⟩
theorem ok_turned (T : Tx K mg) : Fk P w K mg base CX0 1 "turned" ["rows"] (PF (aC (rL (rL rB)) aN) (rL (rL rB)) (fun i => m_turned i.1)) := by
  obtain ⟨fd, F⟩ := T.def_ 7 rfl
  have nd := sc_turned.nd
  refine fk_mk T.toTx (x := "turned") (T.glo 14 rfl) F (fun _ _ _ _ _ _ us hl => match us, hl with | [_], _ => rfl) (F.ok sc_turned (fun vs H Q E h => ?_) (fun cdv A outer s H vs Q E hr h => ?_))
  · obtain ⟨G, ⟨rows0, ⟨⟩⟩, r, e0, ⟨vrows0, _, rfl, hrows0, rfl⟩, h, k⟩ := h
    rfl
  · obtain ⟨G, ⟨rows0, ⟨⟩⟩, r, e0, ⟨vrows0, _, rfl, hrows0, rfl⟩, h, k⟩ := h
    have w0 := Wo.start e0
    have h : m_turned rows0 = some r := h
    unfold m_turned at h
    refine ⟨_, PSs.nox (pss_cons (ps_ret (pe_lc (own := [("a", 1)]) (by rfl) nd (pi_range1 (by rfl) (fr_range T) (pa_cons (pe_callB (r := rLn K) call_len_seq (by rfl) (fr_len T) (by decide +kernel) (pa_cons (pv 0) pa_nil)) pa_nil)) (blkOk_by (by kernel_rfl)) (fun _ _ _ _ _ => pg_name (i := 1) nd rfl (by first | exact Or.inl rfl | exact Or.inr rfl)) (fun _ _ _ _ _ => pts_nil) (fun _ _ _ _ _ => (pe_lc (own := [("b", 2)]) (by rfl) nd (pi_range1 (by rfl) (fr_range T) (pa_cons (pe_callB (r := rLn K) call_len_seq (by rfl) (fr_len T) (by decide +kernel) (pa_cons (pv 0) pa_nil)) pa_nil)) (blkOk_by (by kernel_rfl)) (fun _ _ _ _ _ => pg_name (i := 2) nd rfl (by first | exact Or.inl rfl | exact Or.inr rfl)) (fun _ _ _ _ _ => pts_nil) (fun _ _ _ _ _ => (pe_ix (r := rIxL K) ix_list (pe_ix (r := rIxL K) ix_list (pv 0) (pv 2) (fun _ _ => rfl)) (pv 1) (fun _ _ => rfl))))))) pss_nil), ?_⟩
    obtain ⟨a174, hx175, h⟩ := bindS h
    have h : a174 = r := Option.some.inj h
    subst h
    exact x_ret w0 (EL.e (el_mapR (el_lcR (j := 1) (ea_cons (e_cb rc_lenL (ea_cons (e_var (R := (rL (rL rB))) (x := rows0) rfl hrows0) ea_nil)) ea_nil) (fun _ => rfl) (fun _ _ _ _ _ _ => et_yes) (fun x162 G163 W164 eG159 eW160 eX161 => (EL.e (el_mapR (el_lcR (j := 2) (ea_cons (e_cb rc_lenL (ea_cons (e_var (R := (rL (rL rB))) (x := rows0) rfl (Rep.mono _ eG159 hrows0)) ea_nil)) ea_nil) (fun _ => rfl) (fun _ _ _ _ _ _ => et_yes) (fun x168 G169 W170 eG165 eW166 eX167 => (e_op rr_ixL (e_op rr_ixL (e_var (R := (rL (rL rB))) (x := rows0) rfl (Rep.mono _ eG165 (Rep.mono _ eG159 hrows0))) (e_var (R := rI) (x := x168) rfl rfl)) (e_var (R := rI) (x := x162) rfl rfl)))))))))) (by first | (simp only [be1, bs1, ba1] at hx175 ⊢; exact hx175) | exact hx175) (fun v9 H9 G9 w9 e9 r9 => k v9 H9 G9 w9.upE r9)
def m_least_above_b1 (rows0 : (List (List Bool))) (uppers_185 : (List Int)) (x210 : Int) (s199 : Unit) : Option (Stp Unit (Option Int)) :=
  (((lcS (fun x222 => (atI rows0 x210 >>= fun t227 => atI t227 x222)) (fun x222 => some x222) uppers_185 >>= fun t229 => some (t229.length : Int)) >>= fun t230 => some (t230 == (uppers_185.length : Int))) >>= fun b231 => bif b231 then (some (some x210) >>= fun a235 => some (Stp.rt a235)) else some (Stp.nx ()))
def m_least_above (rows0 : (List (List Bool))) (first0 : Int) (second0 : Int) : Option (Option Int) :=
  ((rngM 0 (rows0.length : Int) >>= fun xs184 => lcS (fun x179 => (andO ((atI rows0 first0 >>= fun t182 => atI t182 x179)) ((atI rows0 second0 >>= fun t183 => atI t183 x179)))) (fun x179 => some x179) xs184) >>= fun uppers_185 => (some uppers_185 >>= fun xs194 => forL (m_least_above_b1 rows0 uppers_185) xs194 () >>= Sum.elim (fun s199 => (some (none : (Option Int)) >>= fun a247 => some a247)) (fun r => some r)))
theorem sc_least_above : FnScope ["rows", "first", "second", "uppers", "found", "e"] ["rows", "first", "second"] (defScope s_least_above) := ⟨rfl, rfl, rfl, by decide +kernel, rfl, by decide +kernel, by decide +kernel⟩
theorem ok_least_above (T : Tx K mg) : Fk P w K mg base CX0 1 "least_above" ["rows", "first", "second"] (PF (aC (rL (rL rB)) (aC rI (aC rI aN))) (rO rI) (fun i => m_least_above i.1 i.2.1 i.2.2.1)) := by
  obtain ⟨fd, F⟩ := T.def_ 8 rfl
  have nd := sc_least_above.nd
  refine fk_mk T.toTx (x := "least_above") (T.glo 15 rfl) F (fun _ _ _ _ _ _ us hl => match us, hl with | [_, _, _], _ => rfl) (F.ok sc_least_above (fun vs H Q E h => ?_) (fun cdv A outer s H vs Q E hr h => ?_))
  · obtain ⟨G, ⟨rows0, first0, second0, ⟨⟩⟩, r, e0, ⟨vrows0, _, rfl, hrows0, vfirst0, _, rfl, hfirst0, vsecond0, _, rfl, hsecond0, rfl⟩, h, k⟩ := h
    rfl
  · obtain ⟨G, ⟨rows0, first0, second0, ⟨⟩⟩, r, e0, ⟨vrows0, _, rfl, hrows0, vfirst0, _, rfl, hfirst0, vsecond0, _, rfl, hsecond0, rfl⟩, h, k⟩ := h
    cases hfirst0
    cases hsecond0
    have w0 := Wo.start e0
    have h : m_least_above rows0 first0 second0 = some r := h
    unfold m_least_above at h
    refine ⟨_, PSs.nox (pss_cons (ps_setLc (i := 3) (own := [("e", 5)]) (by rfl) nd rfl rfl (sw_true rfl rfl rfl (by decide +kernel)) (pi_range1 (by rfl) (fr_range T) (pa_cons (pe_callB (r := rLn K) call_len_seq (by rfl) (fr_len T) (by decide +kernel) (pa_cons (pv 0) pa_nil)) pa_nil)) (blkOk_by (by kernel_rfl)) (fun _ _ _ _ _ => pg_name (i := 5) nd rfl (by first | exact Or.inl rfl | exact Or.inr rfl)) (fun _ _ _ _ _ => pts_one (PW.pt (pw_and (pt_val (pe_ix (r := rIxL K) ix_list (pe_ix (r := rIxL K) ix_list (pv 0) (pv 1) (fun _ _ => rfl)) (pv 5) (fun _ _ => rfl))) (pw_and1 (pt_val (pe_ix (r := rIxL K) ix_list (pe_ix (r := rIxL K) ix_list (pv 0) (pv 2) (fun _ _ => rfl)) (pv 5) (fun _ _ => rfl))))))) (fun _ _ _ _ _ => (pv 5))) (pss_cons (ps_for PassesOwn.never rfl (pi_list (pv 3)) (pg_name (i := 4) nd rfl (Or.inr rfl)) (pss_cons (ps_if (pt_cmpR op_eq (pe_callB (r := rLn K) call_len_seq (by rfl) (fr_len T) (by decide +kernel) (pa_cons (pe_lc (own := [("e", 5)]) (by rfl) nd (show L2.PI _ _ _ (iList K _) from pi_list (pv 3)) (blkOk_by (by kernel_rfl)) (fun _ _ _ _ _ => pg_name (i := 5) nd rfl (by first | exact Or.inl rfl | exact Or.inr rfl)) (fun _ _ _ _ _ => pts_one (pt_val (pe_ix (r := rIxL K) ix_list (pe_ix (r := rIxL K) ix_list (pv 0) (pv 4) (fun _ _ => rfl)) (pv 5) (fun _ _ => rfl)))) (fun _ _ _ _ _ => (pv 5))) pa_nil)) (pe_callB (r := rLn K) call_len_seq (by rfl) (fr_len T) (by decide +kernel) (pa_cons (pv 3) pa_nil)) (nomark _)) (pss_cons (ps_ret (pv 4)) pss_nil) pss_nil) pss_nil)) (pss_cons (ps_ret pe_non) pss_nil))), ?_⟩
    obtain ⟨uppers_185, hx186, h⟩ := bindS h
    refine x_set w0 (EL.e (el_lcR (j := 5) (ea_cons (e_cb rc_lenL (ea_cons (e_var (R := (rL (rL rB))) (x := rows0) rfl hrows0) ea_nil)) ea_nil) (fun _ => rfl) (fun x179 G180 W181 eG176 eW177 eX178 => (et_and (et_B (e_op rr_ixL (e_op rr_ixL (e_var (R := (rL (rL rB))) (x := rows0) rfl (Rep.mono _ eX178 (Rep.mono _ eG176 hrows0))) (e_var (R := rI) (x := first0) rfl rfl)) (e_var (R := rI) (x := x179) rfl rfl))) (et_B (e_op rr_ixL (e_op rr_ixL (e_var (R := (rL (rL rB))) (x := rows0) rfl (Rep.mono _ eX178 (Rep.mono _ eG176 hrows0))) (e_var (R := rI) (x := second0) rfl rfl)) (e_var (R := rI) (x := x179) rfl rfl))))) (fun x179 G180 W181 eG176 eW177 eX178 => (e_var (R := rI) (x := x179) rfl rfl)))) (by first | (simp only [be1, bs1, ba1] at hx186 ⊢; exact hx186) | exact hx186) ?_
    intro v189 H187 G190 w188 e191 h192
    have h193 := Rep.mono _ e191 hrows0
    obtain ⟨xs194, hx195, h⟩ := bindS h
    obtain ⟨t197, hx198, h⟩ := bindS h
    refine x_forL w188 (e_var (R := (rL rI)) (x := uppers_185) rfl h192) hx195 (fun i G' H' σ' => ∃ s199 : Unit, ∃ u200 : Option V, ∃ u201 : Option V, Wo G H [] G' H' [] ∧ Evl.Ex G190 G' ∧ σ' = [some vrows0, some (V.int first0), some (V.int second0), some v189, u201, u200] ∧ forL (m_least_above_b1 rows0 uppers_185) (xs194.drop i) s199 = some t197) (fun _ _ _ _ ⟨_, _, _, w, _⟩ => w.ex) ?_ ?_ ?_
    · intro G' H' w' e'
      exact ⟨(), (none), (none), w', e', rfl, hx198⟩
    · rintro G212 e213 i209 x210 v214 σ' G205 H208 hx211 e216 ⟨s199, u200, u201, w206, e207, rfl, hm203⟩ r215
      obtain ⟨q204, hb202, hm203⟩ := forL_at hx211 hm203
      have h217 := Rep.mono _ e207 h193
      have h218 := Rep.mono _ e207 h192
      refine g_name ?_
      cases r215
      unfold m_least_above_b1 at hb202
      obtain ⟨b231, hx232, hb202⟩ := bindS hb202
      refine x_if w206 (et_T (e_op rr_eqI (e_cb rc_lenL (ea_cons (EL.e (el_lcL (j := 5) (e_var (R := (rL rI)) (x := uppers_185) rfl (Rep.mono _ w206.ex h218)) (fun _ => rfl) (fun x222 v225 G223 W224 eG219 eW220 eX221 h226 => (et_B (e_op rr_ixL (e_op rr_ixL (e_var (R := (rL (rL rB))) (x := rows0) rfl (Rep.mono _ eX221 (Rep.mono _ eG219 (Rep.mono _ w206.ex h217)))) (e_var (R := rI) (x := x210) rfl rfl)) (e_var (R := rI) (x := x222) rfl (Rep.mono _ eX221 h226))))) (fun x222 v225 G223 W224 eG219 eW220 eX221 h226 => (e_var (R := rI) (x := x222) rfl h226)))) ea_nil)) (e_cb rc_lenL (ea_cons (e_var (R := (rL rI)) (x := uppers_185) rfl (Rep.mono _ w206.ex h218)) ea_nil)))) (by first | (simp only [be1, bs1, ba1] at hx232 ⊢; exact hx232) | exact hx232) ?_ ?_
      · intro hbb231 H233 w234
        subst hbb231
        have hb202 := bifT hb202
        obtain ⟨a235, hx236, hb202⟩ := bindS hb202
        have hb202 : some (Stp.rt a235) = some q204 := hb202
        cases hb202
        have hm203 : some (Sum.inr a235) = some t197 := hm203
        cases hm203
        have h : a235 = r := Option.some.inj h
        subst h
        exact x_ret w234 (e_some (e_var (R := rI) (x := x210) rfl rfl)) hx236 (fun v9 H9 G9 w9 e9 r9 => k v9 H9 G9 w9.upE r9)
      · intro hbb231 H237 w238
        subst hbb231
        have hb202 := bifF hb202
        refine x_next ?_
        refine x_next ?_
        have hb202 : Stp.nx () = q204 := Option.some.inj hb202
        subst hb202
        exact ⟨G205, (e216.trans (Evl.Ex.refl _)), (), (u200), (some (V.int x210)), w238, e207, rfl, hm203⟩
    · rintro σ' G239 H242 e243 ⟨s199, u200, u201, w240, e241, rfl, hm203⟩
      have hm203 := forL_end hm203
      subst hm203
      have h := elimL h
      have h245 := Rep.mono _ e241 h193
      have h246 := Rep.mono _ e241 h192
      obtain ⟨a247, hx248, h⟩ := bindS h
      have h : a247 = r := Option.some.inj h
      subst h
      exact x_ret w240 (e_none (R := rI)) hx248 (fun v9 H9 G9 w9 e9 r9 => k v9 H9 G9 w9.upE r9)
def m_bounds_table (rows0 : (List (List Bool))) : Option (List (List (Option Int))) :=
  (some (rows0.length : Int) >>= fun size_249 => ((rngM 0 size_249 >>= fun xs266 => mapS (fun x256 => (rngM 0 size_249 >>= fun xs265 => mapS (fun x262 => m_least_above rows0 x256 x262) xs265)) xs266) >>= fun a267 => some a267))
theorem sc_bounds_table : FnScope ["rows", "size", "a", "b"] ["rows"] (defScope s_bounds_table) := ⟨rfl, rfl, rfl, by decide +kernel, rfl, by decide +kernel, by decide +kernel⟩
theorem ok_bounds_table (T : Tx K mg) : Fk P w K mg base CX0 2 "bounds_table" ["rows"] (PF (aC (rL (rL rB)) aN) (rL (rL (rO rI))) (fun i => m_bounds_table i.1)) := by
  obtain ⟨fd_least_above, G_least_above, b_least_above, k_least_above, g_least_above⟩ := ok_least_above (w := w) (base := base) T
  obtain ⟨fd, F⟩ := T.def_ 9 rfl
  have nd := sc_bounds_table.nd
  refine fk_mk T.toTx (x := "bounds_table") (T.glo 16 rfl) F (fun _ _ _ _ _ _ us hl => match us, hl with | [_], _ => rfl) (F.ok sc_bounds_table (fun vs H Q E h => ?_) (fun cdv A outer s H vs Q E hr h => ?_))
  · obtain ⟨G, ⟨rows0, ⟨⟩⟩, r, e0, ⟨vrows0, _, rfl, hrows0, rfl⟩, h, k⟩ := h
    rfl
  · obtain ⟨G, ⟨rows0, ⟨⟩⟩, r, e0, ⟨vrows0, _, rfl, hrows0, rfl⟩, h, k⟩ := h
    have w0 := Wo.start e0
    have h : m_bounds_table rows0 = some r := h
    unfold m_bounds_table at h
    refine ⟨_, PSs.nox (pss_cons (ps_set (i := 1) nd rfl (Or.inr rfl) (pe_callB (r := rLn K) call_len_seq (by rfl) (fr_len T) (by decide +kernel) (pa_cons (pv 0) pa_nil))) (pss_cons (ps_ret (pe_lc (own := [("a", 2)]) (by rfl) nd (pi_range1 (by rfl) (fr_range T) (pa_cons (pv 1) pa_nil)) (blkOk_by (by kernel_rfl)) (fun _ _ _ _ _ => pg_name (i := 2) nd rfl (by first | exact Or.inl rfl | exact Or.inr rfl)) (fun _ _ _ _ _ => pts_nil) (fun _ _ _ _ _ => (pe_lc (own := [("b", 3)]) (by rfl) nd (pi_range1 (by rfl) (fr_range T) (pa_cons (pv 1) pa_nil)) (blkOk_by (by kernel_rfl)) (fun _ _ _ _ _ => pg_name (i := 3) nd rfl (by first | exact Or.inl rfl | exact Or.inr rfl)) (fun _ _ _ _ _ => pts_nil) (fun _ _ _ _ _ => (pe_call G_least_above (hr.mono (by decide)) rfl g_least_above k_least_above b_least_above .nil pass0 (pa_cons (pv 0) (pa_cons (pv 2) (pa_cons (pv 3) pa_nil))))))))) pss_nil)), ?_⟩
    obtain ⟨size_249, hx250, h⟩ := bindS h
    refine x_setI w0 (e_cb rc_lenL (ea_cons (e_var (R := (rL (rL rB))) (x := rows0) rfl hrows0) ea_nil)) hx250 ?_
    intro H251 w252
    obtain ⟨a267, hx268, h⟩ := bindS h
    have h : a267 = r := Option.some.inj h
    subst h
    exact x_ret w252 (EL.e (el_mapR (el_lcR (j := 2) (ea_cons (e_var (R := rI) (x := size_249) rfl rfl) ea_nil) (fun _ => rfl) (fun _ _ _ _ _ _ => et_yes) (fun x256 G257 W258 eG253 eW254 eX255 => (EL.e (el_mapR (el_lcR (j := 3) (ea_cons (e_var (R := rI) (x := size_249) rfl rfl) ea_nil) (fun _ => rfl) (fun _ _ _ _ _ _ => et_yes) (fun x262 G263 W264 eG259 eW260 eX261 => (e_call (ea_cons (e_var (R := (rL (rL rB))) (x := rows0) rfl (Rep.mono _ eG259 (Rep.mono _ eG253 hrows0))) (ea_cons (e_var (R := rI) (x := x256) rfl rfl) (ea_cons (e_var (R := rI) (x := x262) rfl rfl) ea_nil)))))))))))) (by first | (simp only [be1, bs1, ba1] at hx268 ⊢; exact hx268) | exact hx268) (fun v9 H9 G9 w9 e9 r9 => k v9 H9 G9 w9.upE r9)
def m_first_ring_b2 (rows0 : (List (List Bool))) (x287 : Int) (x309 : Int) (s299 : Unit) : Option (Stp Unit (Option (Int × Int))) :=
  ((andO ((atI rows0 x287 >>= fun t312 => atI t312 x309)) ((atI rows0 x309 >>= fun t313 => atI t313 x287))) >>= fun b314 => bif b314 then (some (some (x287, x309)) >>= fun a318 => some (Stp.rt a318)) else some (Stp.nx ()))
def m_first_ring_b1 (rows0 : (List (List Bool))) (x287 : Int) (s276 : Unit) : Option (Stp Unit (Option (Int × Int))) :=
  (some (x287 + (1 : Int)) >>= fun n290 => some (rows0.length : Int) >>= fun n292 => rngM n290 n292 >>= fun xs294 => forL (m_first_ring_b2 rows0 x287) xs294 () >>= Sum.elim (fun s299 => some (Stp.nx ())) (fun r => some (Stp.rt r)))
def m_first_ring (rows0 : (List (List Bool))) : Option (Option (Int × Int)) :=
  (some (rows0.length : Int) >>= fun n269 => rngM 0 n269 >>= fun xs271 => forL (m_first_ring_b1 rows0) xs271 () >>= Sum.elim (fun s276 => (some (none : (Option (Int × Int))) >>= fun a334 => some a334)) (fun r => some r))
theorem sc_first_ring : FnScope ["rows", "first", "second"] ["rows"] (defScope s_first_ring) := ⟨rfl, rfl, rfl, by decide +kernel, rfl, by decide +kernel, by decide +kernel⟩
theorem ok_first_ring (T : Tx K mg) : Fk P w K mg base CX0 1 "first_ring" ["rows"] (PF (aC (rL (rL rB)) aN) (rO (rP rI rI)) (fun i => m_first_ring i.1)) := by
  obtain ⟨fd, F⟩ := T.def_ 10 rfl
  have nd := sc_first_ring.nd
  refine fk_mk T.toTx (x := "first_ring") (T.glo 17 rfl) F (fun _ _ _ _ _ _ us hl => match us, hl with | [_], _ => rfl) (F.ok sc_first_ring (fun vs H Q E h => ?_) (fun cdv A outer s H vs Q E hr h => ?_))
  · obtain ⟨G, ⟨rows0, ⟨⟩⟩, r, e0, ⟨vrows0, _, rfl, hrows0, rfl⟩, h, k⟩ := h
    rfl
  · obtain ⟨G, ⟨rows0, ⟨⟩⟩, r, e0, ⟨vrows0, _, rfl, hrows0, rfl⟩, h, k⟩ := h
    have w0 := Wo.start e0
    have h : m_first_ring rows0 = some r := h
    unfold m_first_ring at h
    refine ⟨_, PSs.nox (pss_cons (ps_for PassesOwn.never rfl (pi_range1 (by rfl) (fr_range T) (pa_cons (pe_callB (r := rLn K) call_len_seq (by rfl) (fr_len T) (by decide +kernel) (pa_cons (pv 0) pa_nil)) pa_nil)) (pg_name (i := 1) nd rfl (Or.inl rfl)) (pss_cons (ps_for PassesOwn.never rfl (pi_range2 (by rfl) (fr_range T) (pa_cons (pe_op op_add (pv 1) pe_int) (pa_cons (pe_callB (r := rLn K) call_len_seq (by rfl) (fr_len T) (by decide +kernel) (pa_cons (pv 0) pa_nil)) pa_nil))) (pg_name (i := 2) nd rfl (Or.inl rfl)) (pss_cons (ps_if (PW.pt (pw_and (pt_val (pe_ix (r := rIxL K) ix_list (pe_ix (r := rIxL K) ix_list (pv 0) (pv 1) (fun _ _ => rfl)) (pv 2) (fun _ _ => rfl))) (pw_and1 (pt_val (pe_ix (r := rIxL K) ix_list (pe_ix (r := rIxL K) ix_list (pv 0) (pv 2) (fun _ _ => rfl)) (pv 1) (fun _ _ => rfl)))))) (pss_cons (ps_ret (pe_tup (pa_cons (pv 1) (pa_cons (pv 2) pa_nil)))) pss_nil) pss_nil) pss_nil)) pss_nil)) (pss_cons (ps_ret pe_non) pss_nil)), ?_⟩
    obtain ⟨n269, hx270, h⟩ := bindS h
    obtain ⟨xs271, hx272, h⟩ := bindS h
    obtain ⟨t274, hx275, h⟩ := bindS h
    refine x_forR w0 (ea_cons (Sim.E.is (e_cb rc_lenL (ea_cons (e_var (R := (rL (rL rB))) (x := rows0) rfl hrows0) ea_nil)) hx270) ea_nil) rfl hx272 (fun i G' H' σ' => ∃ s276 : Unit, ∃ u277 : Option V, ∃ u278 : Option V, Wo G H [] G' H' [] ∧ Evl.Ex G G' ∧ σ' = [some vrows0, u277, u278] ∧ forL (m_first_ring_b1 rows0) (xs271.drop i) s276 = some t274) ?_ ?_ ?_
    · intro G' H' w' e'
      exact ⟨(), (none), (none), w', e', rfl, hx275⟩
    · rintro i286 x287 σ' G282 H285 hx288 ⟨s276, u277, u278, w283, e284, rfl, hm280⟩
      obtain ⟨q281, hb279, hm280⟩ := forL_at hx288 hm280
      have h289 := Rep.mono _ e284 hrows0
      refine g_name ?_
      unfold m_first_ring_b1 at hb279
      obtain ⟨n290, hx291, hb279⟩ := bindS hb279
      obtain ⟨n292, hx293, hb279⟩ := bindS hb279
      obtain ⟨xs294, hx295, hb279⟩ := bindS hb279
      obtain ⟨t297, hx298, hb279⟩ := bindS hb279
      refine x_forR2 w283 (ea_cons (Sim.E.is (e_op rr_add (e_var (R := rI) (x := x287) rfl rfl) e_int) hx291) (ea_cons (Sim.E.is (e_cb rc_lenL (ea_cons (e_var (R := (rL (rL rB))) (x := rows0) rfl h289) ea_nil)) hx293) ea_nil)) rfl hx295 (fun i G' H' σ' => ∃ s299 : Unit, ∃ u300 : Option V, Wo G H [] G' H' [] ∧ Evl.Ex G282 G' ∧ σ' = [some vrows0, some (V.int x287), u300] ∧ forL (m_first_ring_b2 rows0 x287) (xs294.drop i) s299 = some t297) ?_ ?_ ?_
      · intro G' H' w' e'
        exact ⟨(), (u278), w', e', rfl, hx298⟩
      · rintro i308 x309 σ' G304 H307 hx310 ⟨s299, u300, w305, e306, rfl, hm302⟩
        obtain ⟨q303, hb301, hm302⟩ := forL_at hx310 hm302
        have h311 := Rep.mono _ e306 h289
        refine g_name ?_
        unfold m_first_ring_b2 at hb301
        obtain ⟨b314, hx315, hb301⟩ := bindS hb301
        refine x_if w305 (et_and (et_B (e_op rr_ixL (e_op rr_ixL (e_var (R := (rL (rL rB))) (x := rows0) rfl (Rep.mono _ w305.ex h311)) (e_var (R := rI) (x := x287) rfl rfl)) (e_var (R := rI) (x := x309) rfl rfl))) (et_B (e_op rr_ixL (e_op rr_ixL (e_var (R := (rL (rL rB))) (x := rows0) rfl (Rep.mono _ w305.ex h311)) (e_var (R := rI) (x := x309) rfl rfl)) (e_var (R := rI) (x := x287) rfl rfl)))) (by first | (simp only [be1, bs1, ba1] at hx315 ⊢; exact hx315) | exact hx315) ?_ ?_
        · intro hbb314 H316 w317
          subst hbb314
          have hb301 := bifT hb301
          obtain ⟨a318, hx319, hb301⟩ := bindS hb301
          have hb301 : some (Stp.rt a318) = some q303 := hb301
          cases hb301
          have hm302 : some (Sum.inr a318) = some t297 := hm302
          cases hm302
          have hb279 : some (Stp.rt a318) = some q281 := hb279
          cases hb279
          have hm280 : some (Sum.inr a318) = some t274 := hm280
          cases hm280
          have h : a318 = r := Option.some.inj h
          subst h
          exact x_ret w317 (e_some (e_pair (e_var (R := rI) (x := x287) rfl rfl) (e_var (R := rI) (x := x309) rfl rfl))) hx319 (fun v9 H9 G9 w9 e9 r9 => k v9 H9 G9 w9.upE r9)
        · intro hbb314 H320 w321
          subst hbb314
          have hb301 := bifF hb301
          refine x_next ?_
          refine x_next ?_
          have hb301 : Stp.nx () = q303 := Option.some.inj hb301
          subst hb301
          exact ⟨G304, (), (some (V.int x309)), w321, e306, rfl, hm302⟩
      · rintro σ' G322 H325 ⟨s299, u300, w323, e324, rfl, hm302⟩
        have hm302 := forL_end hm302
        subst hm302
        have hb279 := elimL hb279
        have h327 := Rep.mono _ e324 h289
        refine x_next ?_
        have hb279 : Stp.nx () = q281 := Option.some.inj hb279
        subst hb279
        exact ⟨G322, (), (some (V.int x287)), (u300), w323, (e284.trans e324), rfl, hm280⟩
    · rintro σ' G328 H331 ⟨s276, u277, u278, w329, e330, rfl, hm280⟩
      have hm280 := forL_end hm280
      subst hm280
      have h := elimL h
      have h333 := Rep.mono _ e330 hrows0
      obtain ⟨a334, hx335, h⟩ := bindS h
      have h : a334 = r := Option.some.inj h
      subst h
      exact x_ret w329 (e_none (R := (rP rI rI))) hx335 (fun v9 H9 G9 w9 e9 r9 => k v9 H9 G9 w9.upE r9)
def m_first_lack_b2 (table0 : (List (List (Option Int)))) (x354 : Int) (x376 : Int) (s366 : Unit) : Option (Stp Unit (Option (Int × Int))) :=
  (((atI table0 x354 >>= fun t379 => atI t379 x376) >>= fun t380 => some t380.isNone) >>= fun b381 => bif b381 then (some (some (x354, x376)) >>= fun a385 => some (Stp.rt a385)) else some (Stp.nx ()))
def m_first_lack_b1 (table0 : (List (List (Option Int)))) (x354 : Int) (s343 : Unit) : Option (Stp Unit (Option (Int × Int))) :=
  (some (x354 + (1 : Int)) >>= fun n357 => some (table0.length : Int) >>= fun n359 => rngM n357 n359 >>= fun xs361 => forL (m_first_lack_b2 table0 x354) xs361 () >>= Sum.elim (fun s366 => some (Stp.nx ())) (fun r => some (Stp.rt r)))
def m_first_lack (table0 : (List (List (Option Int)))) : Option (Option (Int × Int)) :=
  (some (table0.length : Int) >>= fun n336 => rngM 0 n336 >>= fun xs338 => forL (m_first_lack_b1 table0) xs338 () >>= Sum.elim (fun s343 => (some (none : (Option (Int × Int))) >>= fun a401 => some a401)) (fun r => some r))
theorem sc_first_lack : FnScope ["table", "first", "second"] ["table"] (defScope s_first_lack) := ⟨rfl, rfl, rfl, by decide +kernel, rfl, by decide +kernel, by decide +kernel⟩
theorem ok_first_lack (T : Tx K mg) : Fk P w K mg base CX0 1 "first_lack" ["table"] (PF (aC (rL (rL (rO rI))) aN) (rO (rP rI rI)) (fun i => m_first_lack i.1)) := by
  obtain ⟨fd, F⟩ := T.def_ 11 rfl
  have nd := sc_first_lack.nd
  refine fk_mk T.toTx (x := "first_lack") (T.glo 18 rfl) F (fun _ _ _ _ _ _ us hl => match us, hl with | [_], _ => rfl) (F.ok sc_first_lack (fun vs H Q E h => ?_) (fun cdv A outer s H vs Q E hr h => ?_))
  · obtain ⟨G, ⟨table0, ⟨⟩⟩, r, e0, ⟨vtable0, _, rfl, htable0, rfl⟩, h, k⟩ := h
    rfl
  · obtain ⟨G, ⟨table0, ⟨⟩⟩, r, e0, ⟨vtable0, _, rfl, htable0, rfl⟩, h, k⟩ := h
    have w0 := Wo.start e0
    have h : m_first_lack table0 = some r := h
    unfold m_first_lack at h
    refine ⟨_, PSs.nox (pss_cons (ps_for PassesOwn.never rfl (pi_range1 (by rfl) (fr_range T) (pa_cons (pe_callB (r := rLn K) call_len_seq (by rfl) (fr_len T) (by decide +kernel) (pa_cons (pv 0) pa_nil)) pa_nil)) (pg_name (i := 1) nd rfl (Or.inl rfl)) (pss_cons (ps_for PassesOwn.never rfl (pi_range2 (by rfl) (fr_range T) (pa_cons (pe_op op_add (pv 1) pe_int) (pa_cons (pe_callB (r := rLn K) call_len_seq (by rfl) (fr_len T) (by decide +kernel) (pa_cons (pv 0) pa_nil)) pa_nil))) (pg_name (i := 2) nd rfl (Or.inl rfl)) (pss_cons (ps_if (pt_cmpR op_isN (pe_ix (r := rIxL K) ix_list (pe_ix (r := rIxL K) ix_list (pv 0) (pv 1) (fun _ _ => rfl)) (pv 2) (fun _ _ => rfl)) pe_non (nomark _)) (pss_cons (ps_ret (pe_tup (pa_cons (pv 1) (pa_cons (pv 2) pa_nil)))) pss_nil) pss_nil) pss_nil)) pss_nil)) (pss_cons (ps_ret pe_non) pss_nil)), ?_⟩
    obtain ⟨n336, hx337, h⟩ := bindS h
    obtain ⟨xs338, hx339, h⟩ := bindS h
    obtain ⟨t341, hx342, h⟩ := bindS h
    refine x_forR w0 (ea_cons (Sim.E.is (e_cb rc_lenL (ea_cons (e_var (R := (rL (rL (rO rI)))) (x := table0) rfl htable0) ea_nil)) hx337) ea_nil) rfl hx339 (fun i G' H' σ' => ∃ s343 : Unit, ∃ u344 : Option V, ∃ u345 : Option V, Wo G H [] G' H' [] ∧ Evl.Ex G G' ∧ σ' = [some vtable0, u344, u345] ∧ forL (m_first_lack_b1 table0) (xs338.drop i) s343 = some t341) ?_ ?_ ?_
    · intro G' H' w' e'
      exact ⟨(), (none), (none), w', e', rfl, hx342⟩
    · rintro i353 x354 σ' G349 H352 hx355 ⟨s343, u344, u345, w350, e351, rfl, hm347⟩
      obtain ⟨q348, hb346, hm347⟩ := forL_at hx355 hm347
      have h356 := Rep.mono _ e351 htable0
      refine g_name ?_
      unfold m_first_lack_b1 at hb346
      obtain ⟨n357, hx358, hb346⟩ := bindS hb346
      obtain ⟨n359, hx360, hb346⟩ := bindS hb346
      obtain ⟨xs361, hx362, hb346⟩ := bindS hb346
      obtain ⟨t364, hx365, hb346⟩ := bindS hb346
      refine x_forR2 w350 (ea_cons (Sim.E.is (e_op rr_add (e_var (R := rI) (x := x354) rfl rfl) e_int) hx358) (ea_cons (Sim.E.is (e_cb rc_lenL (ea_cons (e_var (R := (rL (rL (rO rI)))) (x := table0) rfl h356) ea_nil)) hx360) ea_nil)) rfl hx362 (fun i G' H' σ' => ∃ s366 : Unit, ∃ u367 : Option V, Wo G H [] G' H' [] ∧ Evl.Ex G349 G' ∧ σ' = [some vtable0, some (V.int x354), u367] ∧ forL (m_first_lack_b2 table0 x354) (xs361.drop i) s366 = some t364) ?_ ?_ ?_
      · intro G' H' w' e'
        exact ⟨(), (u345), w', e', rfl, hx365⟩
      · rintro i375 x376 σ' G371 H374 hx377 ⟨s366, u367, w372, e373, rfl, hm369⟩
        obtain ⟨q370, hb368, hm369⟩ := forL_at hx377 hm369
        have h378 := Rep.mono _ e373 h356
        refine g_name ?_
        unfold m_first_lack_b2 at hb368
        obtain ⟨b381, hx382, hb368⟩ := bindS hb368
        refine x_if w372 (et_T (e_op (rr_isN nnI) (e_op rr_ixL (e_op rr_ixL (e_var (R := (rL (rL (rO rI)))) (x := table0) rfl (Rep.mono _ w372.ex h378)) (e_var (R := rI) (x := x354) rfl rfl)) (e_var (R := rI) (x := x376) rfl rfl)) e_non)) (by first | (simp only [be1, bs1, ba1] at hx382 ⊢; exact hx382) | exact hx382) ?_ ?_
        · intro hbb381 H383 w384
          subst hbb381
          have hb368 := bifT hb368
          obtain ⟨a385, hx386, hb368⟩ := bindS hb368
          have hb368 : some (Stp.rt a385) = some q370 := hb368
          cases hb368
          have hm369 : some (Sum.inr a385) = some t364 := hm369
          cases hm369
          have hb346 : some (Stp.rt a385) = some q348 := hb346
          cases hb346
          have hm347 : some (Sum.inr a385) = some t341 := hm347
          cases hm347
          have h : a385 = r := Option.some.inj h
          subst h
          exact x_ret w384 (e_some (e_pair (e_var (R := rI) (x := x354) rfl rfl) (e_var (R := rI) (x := x376) rfl rfl))) hx386 (fun v9 H9 G9 w9 e9 r9 => k v9 H9 G9 w9.upE r9)
        · intro hbb381 H387 w388
          subst hbb381
          have hb368 := bifF hb368
          refine x_next ?_
          refine x_next ?_
          have hb368 : Stp.nx () = q370 := Option.some.inj hb368
          subst hb368
          exact ⟨G371, (), (some (V.int x376)), w388, e373, rfl, hm369⟩
      · rintro σ' G389 H392 ⟨s366, u367, w390, e391, rfl, hm369⟩
        have hm369 := forL_end hm369
        subst hm369
        have hb346 := elimL hb346
        have h394 := Rep.mono _ e391 h356
        refine x_next ?_
        have hb346 : Stp.nx () = q348 := Option.some.inj hb346
        subst hb346
        exact ⟨G389, (), (some (V.int x354)), (u367), w390, (e351.trans e391), rfl, hm347⟩
    · rintro σ' G395 H398 ⟨s343, u344, u345, w396, e397, rfl, hm347⟩
      have hm347 := forL_end hm347
      subst hm347
      have h := elimL h
      have h400 := Rep.mono _ e397 htable0
      obtain ⟨a401, hx402, h⟩ := bindS h
      have h : a401 = r := Option.some.inj h
      subst h
      exact x_ret w396 (e_none (R := (rP rI rI))) hx402 (fun v9 H9 G9 w9 e9 r9 => k v9 H9 G9 w9.upE r9)
def m_longest_b3 (x464 : Int) (rows0 : (List (List Bool))) (x485 : Int) (s475 : (List Int)) : Option (List Int) :=
  (((andO (some (!(x464 == x485))) ((atI rows0 x464 >>= fun t489 => atI t489 x485))) >>= fun b490 => bif b490 then ((atI s475 x485 >>= fun t515 => ((atI s475 x464 >>= fun t514 => some (t514 + (1 : Int))) >>= fun t516 => some (if t516 > t515 then t516 else t515))) >>= fun a517 => some x485 >>= fun i518 => setM s475 i518 a517 >>= fun steps_519 => some steps_519) else some s475) >>= fun s506 => some (s506))
def m_longest_b2 (rows0 : (List (List Bool))) (x464 : Int) (s453 : (List Int)) : Option (List Int) :=
  (some (rows0.length : Int) >>= fun n468 => rngM 0 n468 >>= fun xs470 => forS (m_longest_b3 x464 rows0) xs470 s453 >>= fun s475 => some (s475))
def m_longest_b1 (rows0 : (List (List Bool))) (x438 : (List Bool)) (s426 : (List Int)) : Option (List Int) :=
  (some (rows0.length : Int) >>= fun n446 => rngM 0 n446 >>= fun xs448 => forS (m_longest_b2 rows0) xs448 s426 >>= fun s453 => some (s453))
def m_longest (rows0 : (List (List Bool))) : Option Int :=
  (mapS (fun x406 => some (0 : Int)) rows0 >>= fun steps_412 => (some rows0 >>= fun xs421 => forS (m_longest_b1 rows0) xs421 steps_412 >>= fun s426 => (maxL s426 >>= fun a561 => some a561)))
theorem sc_longest : FnScope ["rows", "steps", "_", "low", "high"] ["rows"] (defScope s_longest) := ⟨rfl, rfl, rfl, by decide +kernel, rfl, by decide +kernel, by decide +kernel⟩
theorem ok_longest (T : Tx K mg) : Fk P w K mg base CX0 1 "longest" ["rows"] (PF (aC (rL (rL rB)) aN) rI (fun i => m_longest i.1)) := by
  obtain ⟨fd, F⟩ := T.def_ 12 rfl
  have nd := sc_longest.nd
  refine fk_mk T.toTx (x := "longest") (T.glo 19 rfl) F (fun _ _ _ _ _ _ us hl => match us, hl with | [_], _ => rfl) (F.ok sc_longest (fun vs H Q E h => ?_) (fun cdv A outer s H vs Q E hr h => ?_))
  · obtain ⟨G, ⟨rows0, ⟨⟩⟩, r, e0, ⟨vrows0, _, rfl, hrows0, rfl⟩, h, k⟩ := h
    rfl
  · obtain ⟨G, ⟨rows0, ⟨⟩⟩, r, e0, ⟨vrows0, _, rfl, hrows0, rfl⟩, h, k⟩ := h
    have w0 := Wo.start e0
    have h : m_longest rows0 = some r := h
    unfold m_longest at h
    refine ⟨_, PSs.nox (pss_cons (ps_setLc (i := 1) (own := [("_", 2)]) (by rfl) nd rfl rfl (sw_true rfl rfl rfl (by decide +kernel)) (show L2.PI _ _ _ (iList K _) from pi_list (pv 0)) (blkOk_by (by kernel_rfl)) (fun _ _ _ _ _ => pg_name (i := 2) nd rfl (by first | exact Or.inl rfl | exact Or.inr rfl)) (fun _ _ _ _ _ => pts_nil) (fun _ _ _ _ _ => pe_int)) (pss_cons (ps_for PassesOwn.never rfl (pi_list (pv 0)) (pg_name (i := 2) nd rfl (Or.inl rfl)) (pss_cons (ps_for PassesOwn.never rfl (pi_range1 (by rfl) (fr_range T) (pa_cons (pe_callB (r := rLn K) call_len_seq (by rfl) (fr_len T) (by decide +kernel) (pa_cons (pv 0) pa_nil)) pa_nil)) (pg_name (i := 3) nd rfl (Or.inl rfl)) (pss_cons (ps_for PassesOwn.never rfl (pi_range1 (by rfl) (fr_range T) (pa_cons (pe_callB (r := rLn K) call_len_seq (by rfl) (fr_len T) (by decide +kernel) (pa_cons (pv 0) pa_nil)) pa_nil)) (pg_name (i := 4) nd rfl (Or.inl rfl)) (Evl.pss_cut (ps_if (PW.pt (pw_and (pt_cmpR op_ne (pv 3) (pv 4) (nomark _)) (pw_and1 (pt_val (pe_ix (r := rIxL K) ix_list (pe_ix (r := rIxL K) ix_list (pv 0) (pv 3) (fun _ _ => rfl)) (pv 4) (fun _ _ => rfl)))))) (pss_cons (ps_asg (pe_callB (call_max2 rfl) (by rfl) (fr_max T) (by decide +kernel) (pa_cons (pe_ix (r := rIxL K) ix_list (pv 1) (pv 4) (fun _ _ => rfl)) (pa_cons (pe_op op_add (pe_ix (r := rIxL K) ix_list (pv 1) (pv 3) (fun _ _ => rfl)) pe_int) pa_nil))) (pg_sub (pv 1) (pv 4) set_list)) pss_nil) pss_nil) pss_nil)) pss_nil)) pss_nil)) (pss_cons (ps_ret (pe_callB (r := rMax K) (cr_max rfl) (by rfl) (fr_max T) (by decide +kernel) (pa_cons (pv 1) pa_nil))) pss_nil))), ?_⟩
    obtain ⟨steps_412, hx413, h⟩ := bindS h
    refine x_setL w0 (el_map (el_lcL (j := 2) (e_var (R := (rL (rL rB))) (x := rows0) rfl hrows0) (fun _ => rfl) (fun _ _ _ _ _ _ _ _ => et_yes) (fun x406 v409 G407 W408 eG403 eW404 eX405 h410 => e_int))) hx413 ?_
    intro p416 H414 G417 n418 w415 e419
    have h420 := Rep.mono _ e419 hrows0
    obtain ⟨xs421, hx422, h⟩ := bindS h
    obtain ⟨t424, hx425, h⟩ := bindS h
    refine x_forL w415 (e_var (R := (rL (rL rB))) (x := rows0) rfl h420) hx422 (fun i G' H' σ' => ∃ s426 : (List Int), ∃ u427 : Option V, ∃ u428 : Option V, ∃ u429 : Option V, Wo G H [] G' H' [(p416, cL rI s426)] ∧ Evl.Ex G417 G' ∧ σ' = [some vrows0, some (V.ref p416), u427, u429, u428] ∧ forS (m_longest_b1 rows0) (xs421.drop i) s426 = some t424) (fun _ _ _ _ ⟨_, _, _, _, w, _⟩ => w.ex) ?_ ?_ ?_
    · intro G' H' w' e'
      exact ⟨steps_412, (none), (none), (none), w', e', rfl, hx425⟩
    · rintro G440 e441 i437 x438 v442 σ' G433 H436 hx439 e444 ⟨s426, u427, u428, u429, w434, e435, rfl, hm431⟩ r443
      obtain ⟨q432, hb430, hm431⟩ := forS_at hx439 hm431
      have h445 := Rep.mono _ e435 h420
      refine g_name ?_
      unfold m_longest_b1 at hb430
      obtain ⟨n446, hx447, hb430⟩ := bindS hb430
      obtain ⟨xs448, hx449, hb430⟩ := bindS hb430
      obtain ⟨t451, hx452, hb430⟩ := bindS hb430
      refine x_forR w434 (ea_cons (Sim.E.is (e_cb rc_lenL (ea_cons (e_var (R := (rL (rL rB))) (x := rows0) rfl h445) ea_nil)) hx447) ea_nil) rfl hx449 (fun i G' H' σ' => ∃ s453 : (List Int), ∃ u454 : Option V, ∃ u455 : Option V, Wo G H [] G' H' [(p416, cL rI s453)] ∧ Evl.Ex G433 G' ∧ σ' = [some vrows0, some (V.ref p416), some v442, u455, u454] ∧ forS (m_longest_b2 rows0) (xs448.drop i) s453 = some t451) ?_ ?_ ?_
      · intro G' H' w' e'
        exact ⟨s426, (u428), (u429), w', e', rfl, hx452⟩
      · rintro i463 x464 σ' G459 H462 hx465 ⟨s453, u454, u455, w460, e461, rfl, hm457⟩
        obtain ⟨q458, hb456, hm457⟩ := forS_at hx465 hm457
        have h466 := Rep.mono _ e461 h445
        have h467 := Rep.mono _ e461 r443
        refine g_name ?_
        unfold m_longest_b2 at hb456
        obtain ⟨n468, hx469, hb456⟩ := bindS hb456
        obtain ⟨xs470, hx471, hb456⟩ := bindS hb456
        obtain ⟨t473, hx474, hb456⟩ := bindS hb456
        refine x_forR w460 (ea_cons (Sim.E.is (e_cb rc_lenL (ea_cons (e_var (R := (rL (rL rB))) (x := rows0) rfl h466) ea_nil)) hx469) ea_nil) rfl hx471 (fun i G' H' σ' => ∃ s475 : (List Int), ∃ u476 : Option V, Wo G H [] G' H' [(p416, cL rI s475)] ∧ Evl.Ex G459 G' ∧ σ' = [some vrows0, some (V.ref p416), some v442, some (V.int x464), u476] ∧ forS (m_longest_b3 x464 rows0) (xs470.drop i) s475 = some t473) ?_ ?_ ?_
        · intro G' H' w' e'
          exact ⟨s453, (u454), w', e', rfl, hx474⟩
        · rintro i484 x485 σ' G480 H483 hx486 ⟨s475, u476, w481, e482, rfl, hm478⟩
          obtain ⟨q479, hb477, hm478⟩ := forS_at hx486 hm478
          have h487 := Rep.mono _ e482 h466
          have h488 := Rep.mono _ e482 h467
          refine g_name ?_
          unfold m_longest_b3 at hb477
          obtain ⟨s506, hx507, hb477⟩ := bindS hb477
          refine o_cut (fun σ' H' => ∃ G' : Hp, Wo G H [] G' H' [(p416, cL rI s506)] ∧ Evl.Ex G480 G' ∧ σ' = [some vrows0, some (V.ref p416), some v442, some (V.int x464), some (V.int x485)]) ?_ ?_
          · obtain ⟨b490, hx511, hx507⟩ := bindS hx507
            refine x_if w481 (et_and (et_T (e_op rr_neI (e_var (R := rI) (x := x464) rfl rfl) (e_var (R := rI) (x := x485) rfl rfl))) (et_B (e_op rr_ixL (e_op rr_ixL (e_var (R := (rL (rL rB))) (x := rows0) rfl (Rep.mono _ w481.ex h487)) (e_var (R := rI) (x := x464) rfl rfl)) (e_var (R := rI) (x := x485) rfl rfl)))) (by first | (simp only [be1, bs1, ba1] at hx511 ⊢; exact hx511) | exact hx511) ?_ ?_
            · intro hbb490 H512 w513
              subst hbb490
              have hx507 := bifT hx507
              obtain ⟨a517, hx520, hx507⟩ := bindS hx507
              obtain ⟨i518, hx521, hx507⟩ := bindS hx507
              obtain ⟨steps_519, hx522, hx507⟩ := bindS hx507
              refine x_setIx (j := 0) w513 rfl rfl (Sim.E.s scI (e_cb rc_max2 (ea_cons (e_op rr_ixL (e_var (R := (rL rI)) (x := s475) rfl (w513.rlAt (i := 0) rfl)) (e_var (R := rI) (x := x485) rfl rfl)) (ea_cons (e_op rr_add (e_op rr_ixL (e_var (R := (rL rI)) (x := s475) rfl (w513.rlAt (i := 0) rfl)) (e_var (R := rI) (x := x464) rfl rfl)) e_int) ea_nil)))) (by first | (simp only [be1, bs1, ba1] at hx520 ⊢; exact hx520) | exact hx520) (e_var (R := rI) (x := x485) rfl rfl) (by first | (simp only [be1, bs1, ba1] at hx521 ⊢; exact hx521) | exact hx521) hx522 ?_
              intro H523 G524 w525 e526
              have h527 := Rep.mono _ e526 h487
              have h528 := Rep.mono _ e526 h488
              have w525 : Wo G H [] G524 H523 [(p416, cL rI steps_519)] := w525
              refine x_next ?_
              have hx507 : steps_519 = s506 := Option.some.inj hx507
              subst hx507
              exact ⟨G524, w525, e526, rfl⟩
            · intro hbb490 H529 w530
              subst hbb490
              have hx507 := bifF hx507
              refine x_next ?_
              have hx507 : s475 = s506 := Option.some.inj hx507
              subst hx507
              exact ⟨G480, w530, (Evl.Ex.refl _), rfl⟩
          · rintro σ' H534 ⟨G531, w509, e508, rfl⟩
            have h532 := Rep.mono _ e508 h487
            have h533 := Rep.mono _ e508 h488
            refine x_next ?_
            have hb477 : s506 = q479 := Option.some.inj hb477
            subst hb477
            exact ⟨G531, s506, (some (V.int x485)), w509, (e482.trans e508), rfl, hm478⟩
        · rintro σ' G535 H538 ⟨s475, u476, w536, e537, rfl, hm478⟩
          have hm478 := forS_end hm478
          subst hm478
          have h540 := Rep.mono _ e537 h466
          have h541 := Rep.mono _ e537 h467
          refine x_next ?_
          have hb456 : s475 = q458 := Option.some.inj hb456
          subst hb456
          exact ⟨G535, s475, (u476), (some (V.int x464)), w536, (e461.trans e537), rfl, hm457⟩
      · rintro σ' G542 H545 ⟨s453, u454, u455, w543, e544, rfl, hm457⟩
        have hm457 := forS_end hm457
        subst hm457
        have h547 := Rep.mono _ e544 h445
        have h548 := Rep.mono _ e544 r443
        refine x_next ?_
        have hb430 : s453 = q432 := Option.some.inj hb430
        subst hb430
        exact ⟨G542, (e444.trans e544), s453, (some v442), (u454), (u455), w543, (e435.trans e544), rfl, hm431⟩
    · rintro σ' G549 H552 e553 ⟨s426, u427, u428, u429, w550, e551, rfl, hm431⟩
      have hm431 := forS_end hm431
      subst hm431
      have h555 := Rep.mono _ e551 h420
      obtain ⟨G556, w557, e558, h559⟩ := w550.freezeAt (i := 0) rfl n418
      have h560 := Rep.mono _ e558 h555
      have w557 : Wo G H [] G556 H552 [] := w557
      obtain ⟨a561, hx562, h⟩ := bindS h
      have h : a561 = r := Option.some.inj h
      subst h
      exact x_ret w557 (e_cb rc_maxL (ea_cons (e_var (R := (rL rI)) (x := s426) rfl h559) ea_nil)) hx562 (fun v9 H9 G9 w9 e9 r9 => k v9 H9 G9 w9.upE r9)
def m_Order___init___b2 (size0 : Int) (x613 : Int) (s603 : Unit) : Option Unit :=
  (some ((decide (x613 < (0 : Int))) || (decide (size0 ≤ x613))) >>= fun b621 => bif b621 then none else some (()))
def m_Order___init___b1 (size0 : Int) (x586 : (Int × Int)) (s574 : Unit) : Option Unit :=
  (some ([x586.1, x586.2]) >>= fun xs598 => forS (m_Order___init___b2 size0) xs598 () >>= fun s603 => some (()))
def m_Order___init__ (size0 : Int) (pairs0 : (List (Int × Int))) : Option m_Order :=
  (some ((decide (size0 < (1 : Int))) || (decide ((12 : Int) < size0))) >>= fun b563 => bif b563 then none else (some pairs0 >>= fun xs569 => forS (m_Order___init___b1 size0) xs569 () >>= fun s574 => (m_closure size0 pairs0 >>= fun above_641 => (m_first_ring above_641 >>= fun bad_650 => (some bad_650.isSome >>= fun b660 => bif b660 then none else (m_bounds_table above_641 >>= fun joins_666 => (m_first_lack joins_666 >>= fun bad_677 => (some bad_677.isSome >>= fun b689 => bif b689 then none else ((m_turned above_641 >>= fun t695 => m_bounds_table t695) >>= fun meets_696 => (m_first_lack meets_696 >>= fun bad_708 => (some bad_708.isSome >>= fun b721 => bif b721 then none else (some above_641 >>= fun f727 => (some joins_666 >>= fun f738 => (some meets_696 >>= fun f749 => (rngM 0 size0 >>= fun f760 => (m_longest above_641 >>= fun f771 => some (m_Order.mk f727 f738 f749 f760 f771)))))))))))))))))
theorem sc_Order___init__ : FnScope ["self", "size", "pairs", "above", "bad", "joins", "meets", "low", "high", "value"] ["self", "size", "pairs"] (defScope s_Order___init__) := ⟨rfl, rfl, rfl, by decide +kernel, rfl, by decide +kernel, by decide +kernel⟩
theorem ok_Order___init__ (T : Tx K mg) : Fm P w K mg base CX0 3 "Order" "__init__" ["self", "size", "pairs"] (Sim.PI (He.ga K "Order") (aC rI (aC (rL (rP rI rI)) aN)) ns_Order (fl_Order K) (fun i => m_Order___init__ i.1 i.2.1)) := by
  obtain ⟨fd_closure, G_closure, b_closure, k_closure, g_closure⟩ := ok_closure (w := w) (base := base) T
  obtain ⟨fd_first_ring, G_first_ring, b_first_ring, k_first_ring, g_first_ring⟩ := ok_first_ring (w := w) (base := base) T
  obtain ⟨fd_bounds_table, G_bounds_table, b_bounds_table, k_bounds_table, g_bounds_table⟩ := ok_bounds_table (w := w) (base := base) T
  obtain ⟨fd_first_lack, G_first_lack, b_first_lack, k_first_lack, g_first_lack⟩ := ok_first_lack (w := w) (base := base) T
  obtain ⟨fd_turned, G_turned, b_turned, k_turned, g_turned⟩ := ok_turned (w := w) (base := base) T
  obtain ⟨fd_longest, G_longest, b_longest, k_longest, g_longest⟩ := ok_longest (w := w) (base := base) T
  obtain ⟨u_Order_MOST, c_Order_MOST⟩ := T.con 0 (C := "Order") (f := "MOST") (v := .int 12) rfl
  obtain ⟨fd, F⟩ := T.def_ 14 rfl
  have nd := sc_Order___init__.nd
  refine fm_mk F (fun _ _ _ _ _ _ us hl => match us, hl with | [_, _, _], _ => rfl) (F.ok sc_Order___init__ (fun vs H Q E h => ?_) (fun cdv A outer s H vs Q E hr h => ?_))
  · obtain ⟨G, l, _, ⟨size0, pairs0, ⟨⟩⟩, r, rfl, wd, ⟨vsize0, _, rfl, hsize0, vpairs0, _, rfl, hpairs0, rfl⟩, h, k⟩ := h
    rfl
  · obtain ⟨G, l, _, ⟨size0, pairs0, ⟨⟩⟩, r, rfl, wd, ⟨vsize0, _, rfl, hsize0, vpairs0, _, rfl, hpairs0, rfl⟩, h, k⟩ := h
    cases hsize0
    have w0 : Wo G H [l] G H _ := Wo.startC wd
    have h : m_Order___init__ size0 pairs0 = some r := h
    unfold m_Order___init__ at h
    refine ⟨_, PSs.nox (pss_cons (ps_if (PW.pt (pw_or (pt_cmpR op_lt (pv 1) pe_int (nomark _)) (pw_or1 (pt_cmpR op_gt (pv 1) (pe_con (pv 0) rfl) (nomark _))))) (pss_cons ps_never pss_nil) pss_nil) (pss_cons (ps_for PassesOwn.never rfl (pi_list (pv 2)) (pg_tup (by rfl) (pgs_cons (pg_name (i := 7) nd rfl (by first | exact Or.inl rfl | exact Or.inr rfl)) (pgs_cons (pg_name (i := 8) nd rfl (by first | exact Or.inl rfl | exact Or.inr rfl)) pgs_nil))) (pss_cons (ps_for PassesOwn.never rfl (pi_tup (pe_tup (pa_cons (pv 7) (pa_cons (pv 8) pa_nil)))) (pg_name (i := 9) nd rfl (Or.inl rfl)) (pss_cons (ps_if (PW.pt (pw_or (pt_cmpR op_lt (pv 9) pe_int (nomark _)) (pw_or1 (pt_cmpR op_ge (pv 9) (pv 1) (nomark _))))) (pss_cons ps_never pss_nil) pss_nil) pss_nil)) pss_nil)) (pss_cons (ps_set (i := 3) nd rfl (Or.inl rfl) (pe_call G_closure (hr.mono (by decide)) rfl g_closure k_closure b_closure .nil pass0 (pa_cons (pv 1) (pa_cons (pv 2) pa_nil)))) (pss_cons (ps_set (i := 4) nd rfl (Or.inl rfl) (pe_call G_first_ring (hr.mono (by decide)) rfl g_first_ring k_first_ring b_first_ring .nil pass0 (pa_cons (pv 3) pa_nil))) (pss_cons (ps_if (pt_cmpR op_notN (pv 4) pe_non (nomark _)) (pss_cons ps_never pss_nil) pss_nil) (pss_cons (ps_set (i := 5) nd rfl (Or.inl rfl) (pe_call G_bounds_table (hr.mono (by decide)) rfl g_bounds_table k_bounds_table b_bounds_table .nil pass0 (pa_cons (pv 3) pa_nil))) (pss_cons (ps_set (i := 4) nd rfl (Or.inl rfl) (pe_call G_first_lack (hr.mono (by decide)) rfl g_first_lack k_first_lack b_first_lack .nil pass0 (pa_cons (pv 5) pa_nil))) (pss_cons (ps_if (pt_cmpR op_notN (pv 4) pe_non (nomark _)) (pss_cons ps_never pss_nil) pss_nil) (pss_cons (ps_set (i := 6) nd rfl (Or.inl rfl) (pe_call G_bounds_table (hr.mono (by decide)) rfl g_bounds_table k_bounds_table b_bounds_table .nil pass0 (pa_cons (pe_call G_turned (hr.mono (by decide)) rfl g_turned k_turned b_turned .nil pass0 (pa_cons (pv 3) pa_nil)) pa_nil))) (pss_cons (ps_set (i := 4) nd rfl (Or.inl rfl) (pe_call G_first_lack (hr.mono (by decide)) rfl g_first_lack k_first_lack b_first_lack .nil pass0 (pa_cons (pv 6) pa_nil))) (pss_cons (ps_if (pt_cmpR op_notN (pv 4) pe_non (nomark _)) (pss_cons ps_never pss_nil) pss_nil) (pss_cons (ps_fld (pv 0) (pv 3) rfl) (pss_cons (ps_fld (pv 0) (pv 5) rfl) (pss_cons (ps_fld (pv 0) (pv 6) rfl) (pss_cons (ps_fld (pv 0) (pe_listRg (by rfl) (by rfl) (fr_list T) (prg_1 (by rfl) (fr_range T) (pv 1))) rfl) (pss_cons (ps_fld (pv 0) (pe_call G_longest (hr.mono (by decide)) rfl g_longest k_longest b_longest .nil pass0 (pa_cons (pv 3) pa_nil)) rfl) pss_nil)))))))))))))))), ?_⟩
    obtain ⟨b563, hx564, h⟩ := bindS h
    refine x_if w0 (et_orP (et_T (e_op rr_lt (e_var (R := rI) (x := size0) rfl rfl) e_int)) (et_T (e_op rr_gt (e_var (R := rI) (x := size0) rfl rfl) (e_conC (S := rI) (x := (12 : Int)) (j := 0) w0 rfl rfl (T.cls 48 rfl) c_Order_MOST (by decide +kernel) (fun _ => rfl))))) hx564 ?_ ?_
    · intro hbb563 H565 w566
      subst hbb563
      have h := bifT h
      cases (show none = some _ from h)
    · intro hbb563 H567 w568
      subst hbb563
      have h := bifF h
      refine x_next ?_
      obtain ⟨xs569, hx570, h⟩ := bindS h
      obtain ⟨t572, hx573, h⟩ := bindS h
      refine x_forL w568 (e_var (R := (rL (rP rI rI))) (x := pairs0) rfl hpairs0) hx570 (fun i G' H' σ' => ∃ s574 : Unit, ∃ u575 : Option V, ∃ u576 : Option V, ∃ u577 : Option V, Wo G H [l] G' H' [(l, cI (He.ga K "Order") [] [])] ∧ Evl.Ex G G' ∧ σ' = [some (V.ref l), some (V.int size0), some vpairs0, none, none, none, none, u576, u575, u577] ∧ forS (m_Order___init___b1 size0) (xs569.drop i) s574 = some t572) (fun _ _ _ _ ⟨_, _, _, _, w, _⟩ => w.ex) ?_ ?_ ?_
      · intro G' H' w' e'
        exact ⟨(), (none), (none), (none), w', e', rfl, hx573⟩
      · rintro G588 e589 i585 x586 v590 σ' G581 H584 hx587 e592 ⟨s574, u575, u576, u577, w582, e583, rfl, hm579⟩ r591
        obtain ⟨q580, hb578, hm579⟩ := forS_at hx587 hm579
        have h593 := Rep.mono _ e583 hpairs0
        refine g_pair (i := 7) (j := 8) r591 w582.ex ?_
        intro v594 v595 r596 r597
        cases r596
        cases r597
        unfold m_Order___init___b1 at hb578
        obtain ⟨xs598, hx599, hb578⟩ := bindS hb578
        obtain ⟨t601, hx602, hb578⟩ := bindS hb578
        refine x_forT w582 (e_tupH (eal_cons (e_var (R := rI) (x := x586.1) rfl rfl) (eal_cons (e_var (R := rI) (x := x586.2) rfl rfl) eal_nil))) hx599 (fun i G' H' σ' => ∃ s603 : Unit, ∃ u604 : Option V, Wo G H [l] G' H' [(l, cI (He.ga K "Order") [] [])] ∧ Evl.Ex G581 G' ∧ σ' = [some (V.ref l), some (V.int size0), some vpairs0, none, none, none, none, some (V.int x586.1), some (V.int x586.2), u604] ∧ forS (m_Order___init___b2 size0) (xs598.drop i) s603 = some t601) (fun _ _ _ _ ⟨_, _, w, _⟩ => w.ex) ?_ ?_ ?_
        · intro G' H' w' e'
          exact ⟨(), (u577), w', e', rfl, hx602⟩
        · rintro G615 e616 i612 x613 v617 σ' G608 H611 hx614 e619 ⟨s603, u604, w609, e610, rfl, hm606⟩ r618
          obtain ⟨q607, hb605, hm606⟩ := forS_at hx614 hm606
          have h620 := Rep.mono _ e610 h593
          refine g_name ?_
          cases r618
          unfold m_Order___init___b2 at hb605
          obtain ⟨b621, hx622, hb605⟩ := bindS hb605
          refine x_if w609 (et_orP (et_T (e_op rr_lt (e_var (R := rI) (x := x613) rfl rfl) e_int)) (et_T (e_op rr_ge (e_var (R := rI) (x := x613) rfl rfl) (e_var (R := rI) (x := size0) rfl rfl)))) hx622 ?_ ?_
          · intro hbb621 H623 w624
            subst hbb621
            have hb605 := bifT hb605
            cases (show none = some _ from hb605)
          · intro hbb621 H625 w626
            subst hbb621
            have hb605 := bifF hb605
            refine x_next ?_
            refine x_next ?_
            have hb605 : () = q607 := Option.some.inj hb605
            subst hb605
            exact ⟨G608, (e619.trans (Evl.Ex.refl _)), (), (some (V.int x613)), w626, e610, rfl, hm606⟩
        · rintro σ' G627 H630 e631 ⟨s603, u604, w628, e629, rfl, hm606⟩
          have hm606 := forS_end hm606
          subst hm606
          have h633 := Rep.mono _ e629 h593
          refine x_next ?_
          have hb578 : () = q580 := Option.some.inj hb578
          subst hb578
          exact ⟨G627, (e592.trans e629), (), (some (V.int x586.2)), (some (V.int x586.1)), (u604), w628, (e583.trans e629), rfl, hm579⟩
      · rintro σ' G634 H637 e638 ⟨s574, u575, u576, u577, w635, e636, rfl, hm579⟩
        have hm579 := forS_end hm579
        subst hm579
        have h640 := Rep.mono _ e636 hpairs0
        obtain ⟨above_641, hx642, h⟩ := bindS h
        refine x_set w635 (e_call (ea_cons (e_var (R := rI) (x := size0) rfl rfl) (ea_cons (e_var (R := (rL (rP rI rI))) (x := pairs0) rfl h640) ea_nil))) (by first | (simp only [be1, bs1, ba1] at hx642 ⊢; exact hx642) | exact hx642) ?_
        intro v645 H643 G646 w644 e647 h648
        have h649 := Rep.mono _ e647 h640
        obtain ⟨bad_650, hx651, h⟩ := bindS h
        refine x_set w644 (e_call (ea_cons (e_var (R := (rL (rL rB))) (x := above_641) rfl h648) ea_nil)) (by first | (simp only [be1, bs1, ba1] at hx651 ⊢; exact hx651) | exact hx651) ?_
        intro v654 H652 G655 w653 e656 h657
        have h658 := Rep.mono _ e656 h649
        have h659 := Rep.mono _ e656 h648
        obtain ⟨b660, hx661, h⟩ := bindS h
        refine x_if w653 (et_T (e_op (rr_notN nnP) (e_var (R := (rO (rP rI rI))) (x := bad_650) rfl (Rep.mono _ w653.ex h657)) e_non)) hx661 ?_ ?_
        · intro hbb660 H662 w663
          subst hbb660
          have h := bifT h
          cases (show none = some _ from h)
        · intro hbb660 H664 w665
          subst hbb660
          have h := bifF h
          refine x_next ?_
          obtain ⟨joins_666, hx667, h⟩ := bindS h
          refine x_set w665 (e_call (ea_cons (e_var (R := (rL (rL rB))) (x := above_641) rfl h659) ea_nil)) (by first | (simp only [be1, bs1, ba1] at hx667 ⊢; exact hx667) | exact hx667) ?_
          intro v670 H668 G671 w669 e672 h673
          have h674 := Rep.mono _ e672 h658
          have h675 := Rep.mono _ e672 h659
          have h676 := Rep.mono _ e672 h657
          obtain ⟨bad_677, hx678, h⟩ := bindS h
          refine x_set w669 (e_call (ea_cons (e_var (R := (rL (rL (rO rI)))) (x := joins_666) rfl h673) ea_nil)) (by first | (simp only [be1, bs1, ba1] at hx678 ⊢; exact hx678) | exact hx678) ?_
          intro v681 H679 G682 w680 e683 h684
          have h685 := Rep.mono _ e683 h674
          have h686 := Rep.mono _ e683 h675
          have h687 := Rep.mono _ e683 h676
          have h688 := Rep.mono _ e683 h673
          obtain ⟨b689, hx690, h⟩ := bindS h
          refine x_if w680 (et_T (e_op (rr_notN nnP) (e_var (R := (rO (rP rI rI))) (x := bad_677) rfl (Rep.mono _ w680.ex h684)) e_non)) hx690 ?_ ?_
          · intro hbb689 H691 w692
            subst hbb689
            have h := bifT h
            cases (show none = some _ from h)
          · intro hbb689 H693 w694
            subst hbb689
            have h := bifF h
            refine x_next ?_
            obtain ⟨meets_696, hx697, h⟩ := bindS h
            refine x_set w694 (e_call (ea_cons (e_call (ea_cons (e_var (R := (rL (rL rB))) (x := above_641) rfl h686) ea_nil)) ea_nil)) (by first | (simp only [be1, bs1, ba1] at hx697 ⊢; exact hx697) | exact hx697) ?_
            intro v700 H698 G701 w699 e702 h703
            have h704 := Rep.mono _ e702 h685
            have h705 := Rep.mono _ e702 h686
            have h706 := Rep.mono _ e702 h684
            have h707 := Rep.mono _ e702 h688
            obtain ⟨bad_708, hx709, h⟩ := bindS h
            refine x_set w699 (e_call (ea_cons (e_var (R := (rL (rL (rO rI)))) (x := meets_696) rfl h703) ea_nil)) (by first | (simp only [be1, bs1, ba1] at hx709 ⊢; exact hx709) | exact hx709) ?_
            intro v712 H710 G713 w711 e714 h715
            have h716 := Rep.mono _ e714 h704
            have h717 := Rep.mono _ e714 h705
            have h718 := Rep.mono _ e714 h706
            have h719 := Rep.mono _ e714 h707
            have h720 := Rep.mono _ e714 h703
            obtain ⟨b721, hx722, h⟩ := bindS h
            refine x_if w711 (et_T (e_op (rr_notN nnP) (e_var (R := (rO (rP rI rI))) (x := bad_708) rfl (Rep.mono _ w711.ex h715)) e_non)) hx722 ?_ ?_
            · intro hbb721 H723 w724
              subst hbb721
              have h := bifT h
              cases (show none = some _ from h)
            · intro hbb721 H725 w726
              subst hbb721
              have h := bifF h
              refine x_next ?_
              obtain ⟨f727, hx728, h⟩ := bindS h
              refine x_fldN (j := 0) w726 rfl rfl (e_var (R := (rL (rL rB))) (x := above_641) rfl h717) hx728 (T.cls 48 rfl) (T.noat 49 rfl) (by decide +kernel) (by decide) ?_
              intro H729 G730 w731 e732
              have h733 := Rep.mono _ e732 h716
              have h734 := Rep.mono _ e732 h717
              have h735 := Rep.mono _ e732 h715
              have h736 := Rep.mono _ e732 h719
              have h737 := Rep.mono _ e732 h720
              have w731 : Wo G H [l] G730 H729 [(l, cI (He.ga K "Order") ["_above"] [pd (rL (rL rB)) f727])] := w731
              obtain ⟨f738, hx739, h⟩ := bindS h
              refine x_fldN (j := 0) w731 rfl rfl (e_var (R := (rL (rL (rO rI)))) (x := joins_666) rfl h736) hx739 (T.cls 48 rfl) (T.noat 50 rfl) (by decide +kernel) (by decide) ?_
              intro H740 G741 w742 e743
              have h744 := Rep.mono _ e743 h733
              have h745 := Rep.mono _ e743 h734
              have h746 := Rep.mono _ e743 h735
              have h747 := Rep.mono _ e743 h736
              have h748 := Rep.mono _ e743 h737
              have w742 : Wo G H [l] G741 H740 [(l, cI (He.ga K "Order") ["_above", "_joins"] [pd (rL (rL rB)) f727, pd (rL (rL (rO rI))) f738])] := w742
              obtain ⟨f749, hx750, h⟩ := bindS h
              refine x_fldN (j := 0) w742 rfl rfl (e_var (R := (rL (rL (rO rI)))) (x := meets_696) rfl h748) hx750 (T.cls 48 rfl) (T.noat 51 rfl) (by decide +kernel) (by decide) ?_
              intro H751 G752 w753 e754
              have h755 := Rep.mono _ e754 h744
              have h756 := Rep.mono _ e754 h745
              have h757 := Rep.mono _ e754 h746
              have h758 := Rep.mono _ e754 h747
              have h759 := Rep.mono _ e754 h748
              have w753 : Wo G H [l] G752 H751 [(l, cI (He.ga K "Order") ["_above", "_joins", "_meets"] [pd (rL (rL rB)) f727, pd (rL (rL (rO rI))) f738, pd (rL (rL (rO rI))) f749])] := w753
              obtain ⟨f760, hx761, h⟩ := bindS h
              refine x_fldN (j := 0) w753 rfl rfl (EL.e (el_listRg (e_var (R := rI) (x := size0) rfl rfl))) hx761 (T.cls 48 rfl) (T.noat 52 rfl) (by decide +kernel) (by decide) ?_
              intro H762 G763 w764 e765
              have h766 := Rep.mono _ e765 h755
              have h767 := Rep.mono _ e765 h756
              have h768 := Rep.mono _ e765 h757
              have h769 := Rep.mono _ e765 h758
              have h770 := Rep.mono _ e765 h759
              have w764 : Wo G H [l] G763 H762 [(l, cI (He.ga K "Order") ["_above", "_joins", "_meets", "_members"] [pd (rL (rL rB)) f727, pd (rL (rL (rO rI))) f738, pd (rL (rL (rO rI))) f749, pd (rL rI) f760])] := w764
              obtain ⟨f771, hx772, h⟩ := bindS h
              refine x_fldN (j := 0) w764 rfl rfl (e_call (ea_cons (e_var (R := (rL (rL rB))) (x := above_641) rfl h767) ea_nil)) (by first | (simp only [be1, bs1, ba1] at hx772 ⊢; exact hx772) | exact hx772) (T.cls 48 rfl) (T.noat 53 rfl) (by decide +kernel) (by decide) ?_
              intro H773 G774 w775 e776
              have h777 := Rep.mono _ e776 h766
              have h778 := Rep.mono _ e776 h767
              have h779 := Rep.mono _ e776 h768
              have h780 := Rep.mono _ e776 h769
              have h781 := Rep.mono _ e776 h770
              have w775 : Wo G H [l] G774 H773 [(l, cI (He.ga K "Order") ["_above", "_joins", "_meets", "_members", "_height"] [pd (rL (rL rB)) f727, pd (rL (rL (rO rI))) f738, pd (rL (rL (rO rI))) f749, pd (rL rI) f760, pd rI f771])] := w775
              refine x_next ?_
              have h : (m_Order.mk f727 f738 f749 f760 f771) = r := Option.some.inj h
              subst h
              exact k _ _ w775.f (w775.sub1 (i := 0) rfl)
def m_Order__require_b1 (self0 : m_Order) (x797 : Int) (s787 : Unit) : Option Unit :=
  (some ((decide (x797 < (0 : Int))) || (decide ((self0.f_members.length : Int) ≤ x797))) >>= fun b805 => bif b805 then none else some (()))
def m_Order__require (self0 : m_Order) (first0 : Int) (second0 : Int) : Option Unit :=
  (some ([first0, second0]) >>= fun xs782 => forS (m_Order__require_b1 self0) xs782 () >>= fun s787 => some ())
theorem sc_Order__require : FnScope ["self", "first", "second", "value"] ["self", "first", "second"] (defScope s_Order__require) := ⟨rfl, rfl, rfl, by decide +kernel, rfl, by decide +kernel, by decide +kernel⟩
theorem ok_Order__require (T : Tx K mg) : Fm P w K mg base CX0 1 "Order" "_require" ["self", "first", "second"] (PF (aC (r_Order K) (aC rI (aC rI aN))) rU (fun i => m_Order__require i.1 i.2.1 i.2.2.1)) := by
  obtain ⟨fd, F⟩ := T.def_ 15 rfl
  have nd := sc_Order__require.nd
  refine fm_mk F (fun _ _ _ _ _ _ us hl => match us, hl with | [_, _, _], _ => rfl) (F.ok sc_Order__require (fun vs H Q E h => ?_) (fun cdv A outer s H vs Q E hr h => ?_))
  · obtain ⟨G, ⟨self0, first0, second0, ⟨⟩⟩, r, e0, ⟨vself0, _, rfl, hself0, vfirst0, _, rfl, hfirst0, vsecond0, _, rfl, hsecond0, rfl⟩, h, k⟩ := h
    rfl
  · obtain ⟨G, ⟨self0, first0, second0, ⟨⟩⟩, r, e0, ⟨vself0, _, rfl, hself0, vfirst0, _, rfl, hfirst0, vsecond0, _, rfl, hsecond0, rfl⟩, h, k⟩ := h
    cases hfirst0
    cases hsecond0
    have w0 := Wo.start e0
    have h : m_Order__require self0 first0 second0 = some r := h
    unfold m_Order__require at h
    refine ⟨_, PSs.nox (pss_cons (ps_for PassesOwn.never rfl (pi_tup (pe_tup (pa_cons (pv 1) (pa_cons (pv 2) pa_nil)))) (pg_name (i := 3) nd rfl (Or.inl rfl)) (pss_cons (ps_if (PW.pt (pw_or (pt_cmpR op_lt (pv 3) pe_int (nomark _)) (pw_or1 (pt_cmpR op_ge (pv 3) (pe_callB (r := rLn K) call_len_seq (by rfl) (fr_len T) (by decide +kernel) (pa_cons (show L2.PE _ _ (tFld K _ _) from pe_fld (pv 0) (by rfl)) pa_nil)) (nomark _))))) (pss_cons ps_never pss_nil) pss_nil) pss_nil)) pss_nil), ?_⟩
    obtain ⟨xs782, hx783, h⟩ := bindS h
    obtain ⟨t785, hx786, h⟩ := bindS h
    refine x_forT w0 (e_tupH (eal_cons (e_var (R := rI) (x := first0) rfl rfl) (eal_cons (e_var (R := rI) (x := second0) rfl rfl) eal_nil))) hx783 (fun i G' H' σ' => ∃ s787 : Unit, ∃ u788 : Option V, Wo G H [] G' H' [] ∧ Evl.Ex G G' ∧ σ' = [some vself0, some (V.int first0), some (V.int second0), u788] ∧ forS (m_Order__require_b1 self0) (xs782.drop i) s787 = some t785) (fun _ _ _ _ ⟨_, _, w, _⟩ => w.ex) ?_ ?_ ?_
    · intro G' H' w' e'
      exact ⟨(), (none), w', e', rfl, hx786⟩
    · rintro G799 e800 i796 x797 v801 σ' G792 H795 hx798 e803 ⟨s787, u788, w793, e794, rfl, hm790⟩ r802
      obtain ⟨q791, hb789, hm790⟩ := forS_at hx798 hm790
      have h804 := Rep.mono _ e794 hself0
      refine g_name ?_
      cases r802
      unfold m_Order__require_b1 at hb789
      obtain ⟨b805, hx806, hb789⟩ := bindS hb789
      refine x_if w793 (et_orP (et_T (e_op rr_lt (e_var (R := rI) (x := x797) rfl rfl) e_int)) (et_T (e_op rr_ge (e_var (R := rI) (x := x797) rfl rfl) (e_cb rc_lenL (ea_cons (e_fld 3 (fun (o : m_Order) => o.f_members) (e_var (R := (r_Order K)) (x := self0) rfl (Rep.mono _ w793.ex h804)) (T.cls 48 rfl) (T.noat 52 rfl) (by decide +kernel) (fun _ => rfl)) ea_nil))))) hx806 ?_ ?_
      · intro hbb805 H807 w808
        subst hbb805
        have hb789 := bifT hb789
        cases (show none = some _ from hb789)
      · intro hbb805 H809 w810
        subst hbb805
        have hb789 := bifF hb789
        refine x_next ?_
        refine x_next ?_
        have hb789 : () = q791 := Option.some.inj hb789
        subst hb789
        exact ⟨G792, (e803.trans (Evl.Ex.refl _)), (), (some (V.int x797)), w810, e794, rfl, hm790⟩
    · rintro σ' G811 H814 e815 ⟨s787, u788, w812, e813, rfl, hm790⟩
      have hm790 := forS_end hm790
      subst hm790
      have h817 := Rep.mono _ e813 hself0
      refine x_next ?_
      have h : () = r := Option.some.inj h
      subst h
      exact k _ _ _ w812.upE rfl
def m_Order_below (self0 : m_Order) (first0 : Int) (second0 : Int) : Option Bool :=
  (m_Order__require self0 first0 second0 >>= fun a818 => ((atI self0.f_above first0 >>= fun t822 => atI t822 second0) >>= fun a823 => some a823))
theorem sc_Order_below : FnScope ["self", "first", "second"] ["self", "first", "second"] (defScope s_Order_below) := ⟨rfl, rfl, rfl, by decide +kernel, rfl, by decide +kernel, by decide +kernel⟩
theorem ok_Order_below (T : Tx K mg) : Fm P w K mg base CX0 2 "Order" "below" ["self", "first", "second"] (PF (aC (r_Order K) (aC rI (aC rI aN))) rB (fun i => m_Order_below i.1 i.2.1 i.2.2.1)) := by
  obtain ⟨fd_Order__require, G_Order__require, b_Order__require⟩ := ok_Order__require (w := w) (base := base) T
  obtain ⟨fd, F⟩ := T.def_ 16 rfl
  have nd := sc_Order_below.nd
  refine fm_mk F (fun _ _ _ _ _ _ us hl => match us, hl with | [_, _, _], _ => rfl) (F.ok sc_Order_below (fun vs H Q E h => ?_) (fun cdv A outer s H vs Q E hr h => ?_))
  · obtain ⟨G, ⟨self0, first0, second0, ⟨⟩⟩, r, e0, ⟨vself0, _, rfl, hself0, vfirst0, _, rfl, hfirst0, vsecond0, _, rfl, hsecond0, rfl⟩, h, k⟩ := h
    rfl
  · obtain ⟨G, ⟨self0, first0, second0, ⟨⟩⟩, r, e0, ⟨vself0, _, rfl, hself0, vfirst0, _, rfl, hfirst0, vsecond0, _, rfl, hsecond0, rfl⟩, h, k⟩ := h
    cases hfirst0
    cases hsecond0
    have w0 := Wo.start e0
    have h : m_Order_below self0 first0 second0 = some r := h
    unfold m_Order_below at h
    refine ⟨_, PSs.nox (pss_cons (ps_expr (pe_meth (pv 0) (T.cls 48 rfl) (T.meth 54 rfl) G_Order__require (hr.mono (by decide)) b_Order__require .nil pass0 (pa_cons (pv 1) (pa_cons (pv 2) pa_nil)))) (pss_cons (ps_ret (pe_ix (r := rIxL K) ix_list (pe_ix (r := rIxL K) ix_list (pe_fld (pv 0) rfl) (pv 1) (fun _ _ => rfl)) (pv 2) (fun _ _ => rfl))) pss_nil)), ?_⟩
    obtain ⟨a818, hx819, h⟩ := bindS h
    refine x_call w0 (e_meth (e_var (R := (r_Order K)) (x := self0) rfl hself0) (ea_cons (e_var (R := rI) (x := first0) rfl rfl) (ea_cons (e_var (R := rI) (x := second0) rfl rfl) ea_nil)) (by decide +kernel)) (by first | (simp only [be1, bs1, ba1] at hx819 ⊢; exact hx819) | exact hx819) ?_
    intro H820 w821
    obtain ⟨a823, hx824, h⟩ := bindS h
    have h : a823 = r := Option.some.inj h
    subst h
    exact x_ret w821 (e_op rr_ixL (e_op rr_ixL (e_fld 0 (fun (o : m_Order) => o.f_above) (e_var (R := (r_Order K)) (x := self0) rfl hself0) (T.cls 48 rfl) (T.noat 49 rfl) (by decide +kernel) (fun _ => rfl)) (e_var (R := rI) (x := first0) rfl rfl)) (e_var (R := rI) (x := second0) rfl rfl)) (by first | (simp only [be1, bs1, ba1] at hx824 ⊢; exact hx824) | exact hx824) (fun v9 H9 G9 w9 e9 r9 => k v9 H9 G9 w9.upE r9)
def m__law_pot_b2 (x944 : Int) (s934 : ((List Int) × Int)) : Option ((List Int) × Int) :=
  ((some ((decide ((0 : Int) < s934.2)) || (x944 == (0 : Int))) >>= fun b947 => bif b947 then (modM s934.2 (100 : Int) >>= fun a966 => appM s934.1 a966 >>= fun pot_here_967 => some pot_here_967) else some s934.1) >>= fun s958 => (fdivM s934.2 (100 : Int) >>= fun rest_981 => some ((s958, rest_981))))
def m__law_pot_b1 (script0 : (List Int)) (x854 : Int) (s841 : (List Int)) : Option (List Int) :=
  ((atI script0 x854 >>= fun t857 => some (if t857 < 0 then -t857 else t857)) >>= fun rest_858 => (some (60 : Int) >>= fun many_862 => (((powM (10 : Int) (18 : Int) >>= fun t866 => some (decide (rest_858 < t866))) >>= fun b867 => bif b867 then ((((mulM (2 : Int) rest_858 >>= fun t901 => (((atI script0 x854 >>= fun t899 => some (decide (t899 < (0 : Int)))) >>= fun t900 => some (if t900 = true then (1 : Int) else 0)) >>= fun t902 => some (t901 + t902))) >>= fun t904 => ((mulM (2 : Int) x854 >>= fun t903 => some ((48271 : Int) + t903)) >>= fun t905 => mulM t904 t905)) >>= fun t906 => modM t906 (2147483647 : Int)) >>= fun rest_907 => (((mulM rest_907 rest_907 >>= fun t911 => (mulM rest_907 x854 >>= fun t912 => some (t911 + t912))) >>= fun t913 => modM t913 (2147483629 : Int)) >>= fun rest_914 => (some (4 : Int) >>= fun many_918 => some (many_918, rest_914)))) else some (many_862, rest_858)) >>= fun s891 => (some s891.1 >>= fun n927 => rngM 0 n927 >>= fun xs929 => forS (m__law_pot_b2) xs929 (s841, s891.2) >>= fun s934 => some (s934.1)))))
def m__law_pot (script0 : (List Int)) : Option (List Int) :=
  (some ([]) >>= fun pot_here_825 => (some (if (63 : Int) < (script0.length : Int) then (63 : Int) else (script0.length : Int)) >>= fun n834 => rngM 0 n834 >>= fun xs836 => forS (m__law_pot_b1 script0) xs836 pot_here_825 >>= fun s841 => (some (s841.reverse) >>= fun pot_here_997 => some s841.reverse)))
theorem sc__law_pot : FnScope ["_law_script", "_law_pot_here", "_law_place", "_law_rest", "_law_many", "_law_k"] ["_law_script"] (defScope s__law_pot) := ⟨rfl, rfl, rfl, by decide +kernel, rfl, by decide +kernel, by decide +kernel⟩
theorem ok__law_pot (T : Tx K mg) : Fk P w K mg base CX0 1 "_law_pot" ["_law_script"] (PL (aC (rScr K) aN) rI (fun i => m__law_pot i.1)) := by
  obtain ⟨fd, F⟩ := T.def_ 17 rfl
  have nd := sc__law_pot.nd
  refine fk_mk T.toTx (x := "_law_pot") (T.glo 22 rfl) F (fun _ _ _ _ _ _ us hl => match us, hl with | [_], _ => rfl) (F.ok sc__law_pot (fun vs H Q E h => ?_) (fun cdv A outer s H vs Q E hr h => ?_))
  · obtain ⟨G, ⟨script0, ⟨⟩⟩, r, e0, ⟨vscript0, _, rfl, hscript0, rfl⟩, h, k⟩ := h
    rfl
  · obtain ⟨G, ⟨script0, ⟨⟩⟩, r, e0, ⟨vscript0, _, rfl, hscript0, rfl⟩, h, k⟩ := h
    have w0 := Wo.start e0
    have h : m__law_pot script0 = some r := h
    unfold m__law_pot at h
    refine ⟨_, PSs.nox (pss_cons (ps_set (i := 1) nd rfl (Or.inl rfl) (pe_lst pa_nil)) (pss_cons (ps_for PassesOwn.never rfl (pi_range1 (by rfl) (fr_range T) (pa_cons (pe_callB (call_min2 rfl) (by rfl) (fr_min T) (by decide +kernel) (pa_cons (pe_callB (r := rLn K) call_len_seq (by rfl) (fr_len T) (by decide +kernel) (pa_cons (pv 0) pa_nil)) (pa_cons pe_int pa_nil))) pa_nil)) (pg_name (i := 2) nd rfl (Or.inl rfl)) (pss_cons (ps_set (i := 3) nd rfl (Or.inl rfl) (pe_callB call_abs (by rfl) (fr_abs T) (by decide +kernel) (pa_cons (pe_ix (r := rIxL K) ix_list (pv 0) (pv 2) (fun _ _ => rfl)) pa_nil))) (pss_cons (ps_set (i := 4) nd rfl (Or.inl rfl) pe_int) (Evl.pss_cut (ps_if (pt_cmpR op_lt (pv 3) (pe_op op_pow pe_int pe_int) (nomark _)) (pss_cons (ps_set (i := 3) nd rfl (Or.inl rfl) (pe_op op_mod (pe_callTy call_int1 (by rfl) (fr_int T) (by decide +kernel) (pa_cons (pe_op op_mul (pe_op op_add (pe_op op_mul pe_int (pv 3)) (pe_callTy call_int1 (by rfl) (fr_int T) (by decide +kernel) (pa_cons (pe_cmpR op_lt (pe_ix (r := rIxL K) ix_list (pv 0) (pv 2) (fun _ _ => rfl)) pe_int (nomark _)) pa_nil))) (pe_op op_add pe_int (pe_op op_mul pe_int (pv 2)))) pa_nil)) pe_int)) (pss_cons (ps_set (i := 3) nd rfl (Or.inl rfl) (pe_op op_mod (pe_callTy call_int1 (by rfl) (fr_int T) (by decide +kernel) (pa_cons (pe_op op_add (pe_op op_mul (pv 3) (pv 3)) (pe_op op_mul (pv 3) (pv 2))) pa_nil)) pe_int)) (pss_cons (ps_set (i := 4) nd rfl (Or.inl rfl) pe_int) pss_nil))) pss_nil) (pss_cons (ps_for PassesOwn.never rfl (pi_range1 (by rfl) (fr_range T) (pa_cons (pv 4) pa_nil)) (pg_name (i := 5) nd rfl (Or.inl rfl)) (Evl.pss_cut (ps_if (PW.pt (pw_or (pt_cmpR op_gt (pv 3) pe_int (nomark _)) (pw_or1 (pt_cmpR op_eq (pv 5) pe_int (nomark _))))) (pss_cons (ps_expr (pe_bm PySem.F.plainAttrs_list PySem.F.slot_list_append PySem.F.type_list_append mt_append (pv 1) (pa_cons (pe_op op_mod (pe_callTy call_int1 (by rfl) (fr_int T) (by decide +kernel) (pa_cons (pv 3) pa_nil)) pe_int) pa_nil))) pss_nil) pss_nil) (pss_cons (ps_set (i := 3) nd rfl (Or.inl rfl) (pe_op op_fdiv (pv 3) pe_int)) pss_nil))) pss_nil))))) (pss_cons (ps_expr (pe_bm0 PySem.F.plainAttrs_list PySem.F.slot_list_reverse PySem.F.type_list_reverse mt_reverse (pv 1))) (pss_cons (ps_ret (pv 1)) pss_nil)))), ?_⟩
    obtain ⟨pot_here_825, hx826, h⟩ := bindS h
    refine x_setL w0 (el_disp (R := rI) eal_nil) hx826 ?_
    intro p829 H827 G830 n831 w828 e832
    have h833 := Rep.mono _ e832 hscript0
    obtain ⟨n834, hx835, h⟩ := bindS h
    obtain ⟨xs836, hx837, h⟩ := bindS h
    obtain ⟨t839, hx840, h⟩ := bindS h
    refine x_forR w828 (ea_cons (Sim.E.is (e_cb rc_min2 (ea_cons (e_cb rc_lenScr (ea_cons (e_var (R := (rScr K)) (x := script0) rfl h833) ea_nil)) (ea_cons e_int ea_nil))) hx835) ea_nil) rfl hx837 (fun i G' H' σ' => ∃ s841 : (List Int), ∃ u842 : Option V, ∃ u843 : Option V, ∃ u844 : Option V, ∃ u845 : Option V, Wo G H [] G' H' [(p829, cL rI s841)] ∧ Evl.Ex G830 G' ∧ σ' = [some vscript0, some (V.ref p829), u844, u845, u843, u842] ∧ forS (m__law_pot_b1 script0) (xs836.drop i) s841 = some t839) ?_ ?_ ?_
    · intro G' H' w' e'
      exact ⟨pot_here_825, (none), (none), (none), (none), w', e', rfl, hx840⟩
    · rintro i853 x854 σ' G849 H852 hx855 ⟨s841, u842, u843, u844, u845, w850, e851, rfl, hm847⟩
      obtain ⟨q848, hb846, hm847⟩ := forS_at hx855 hm847
      have h856 := Rep.mono _ e851 h833
      refine g_name ?_
      unfold m__law_pot_b1 at hb846
      obtain ⟨rest_858, hx859, hb846⟩ := bindS hb846
      refine x_setI w850 (e_cb rc_abs (ea_cons (e_op rr_ixScr (e_var (R := (rScr K)) (x := script0) rfl h856) (e_var (R := rI) (x := x854) rfl rfl)) ea_nil)) (by first | (simp only [be1, bs1, ba1] at hx859 ⊢; exact hx859) | exact hx859) ?_
      intro H860 w861
      obtain ⟨many_862, hx863, hb846⟩ := bindS hb846
      refine x_setI w861 e_int hx863 ?_
      intro H864 w865
      obtain ⟨s891, hx892, hb846⟩ := bindS hb846
      refine o_cut (fun σ' H' => ∃ G' : Hp, Wo G H [] G' H' [(p829, cL rI s841)] ∧ Evl.Ex G849 G' ∧ σ' = [some vscript0, some (V.ref p829), some (V.int x854), some (V.int s891.2), some (V.int s891.1), u842]) ?_ ?_
      · obtain ⟨b867, hx896, hx892⟩ := bindS hx892
        refine x_if w865 (et_T (e_op rr_lt (e_var (R := rI) (x := rest_858) rfl rfl) (e_op rr_pow e_int e_int))) (by first | (simp only [be1, bs1, ba1] at hx896 ⊢; exact hx896) | exact hx896) ?_ ?_
        · intro hbb867 H897 w898
          subst hbb867
          have hx892 := bifT hx892
          obtain ⟨rest_907, hx908, hx892⟩ := bindS hx892
          refine x_setI w898 (e_op rr_mod (e_cb rc_intI (ea_cons (e_op rr_mul (e_op rr_add (e_op rr_mul e_int (e_var (R := rI) (x := rest_858) rfl rfl)) (e_cb rc_intB (ea_cons (e_op rr_lt (e_op rr_ixScr (e_var (R := (rScr K)) (x := script0) rfl h856) (e_var (R := rI) (x := x854) rfl rfl)) e_int) ea_nil))) (e_op rr_add e_int (e_op rr_mul e_int (e_var (R := rI) (x := x854) rfl rfl)))) ea_nil)) e_int) (by first | (simp only [be1, bs1, ba1] at hx908 ⊢; exact hx908) | exact hx908) ?_
          intro H909 w910
          obtain ⟨rest_914, hx915, hx892⟩ := bindS hx892
          refine x_setI w910 (e_op rr_mod (e_cb rc_intI (ea_cons (e_op rr_add (e_op rr_mul (e_var (R := rI) (x := rest_907) rfl rfl) (e_var (R := rI) (x := rest_907) rfl rfl)) (e_op rr_mul (e_var (R := rI) (x := rest_907) rfl rfl) (e_var (R := rI) (x := x854) rfl rfl))) ea_nil)) e_int) (by first | (simp only [be1, bs1, ba1] at hx915 ⊢; exact hx915) | exact hx915) ?_
          intro H916 w917
          obtain ⟨many_918, hx919, hx892⟩ := bindS hx892
          refine x_setI w917 e_int hx919 ?_
          intro H920 w921
          refine x_next ?_
          have hx892 : (many_918, rest_914) = s891 := Option.some.inj hx892
          subst hx892
          exact ⟨G849, w921, (Evl.Ex.refl _), rfl⟩
        · intro hbb867 H922 w923
          subst hbb867
          have hx892 := bifF hx892
          refine x_next ?_
          have hx892 : (many_862, rest_858) = s891 := Option.some.inj hx892
          subst hx892
          exact ⟨G849, w923, (Evl.Ex.refl _), rfl⟩
      · rintro σ' H926 ⟨G924, w894, e893, rfl⟩
        have h925 := Rep.mono _ e893 h856
        obtain ⟨n927, hx928, hb846⟩ := bindS hb846
        obtain ⟨xs929, hx930, hb846⟩ := bindS hb846
        obtain ⟨t932, hx933, hb846⟩ := bindS hb846
        refine x_forR w894 (ea_cons (Sim.E.is (e_var (R := rI) (x := s891.1) rfl rfl) hx928) ea_nil) rfl hx930 (fun i G' H' σ' => ∃ s934 : ((List Int) × Int), ∃ u935 : Option V, Wo G H [] G' H' [(p829, cL rI s934.1)] ∧ Evl.Ex G924 G' ∧ σ' = [some vscript0, some (V.ref p829), some (V.int x854), some (V.int s934.2), some (V.int s891.1), u935] ∧ forS (m__law_pot_b2) (xs929.drop i) s934 = some t932) ?_ ?_ ?_
        · intro G' H' w' e'
          exact ⟨(s841, s891.2), (u842), w', e', rfl, hx933⟩
        · rintro i943 x944 σ' G939 H942 hx945 ⟨s934, u935, w940, e941, rfl, hm937⟩
          obtain ⟨q938, hb936, hm937⟩ := forS_at hx945 hm937
          have h946 := Rep.mono _ e941 h925
          refine g_name ?_
          unfold m__law_pot_b2 at hb936
          obtain ⟨s958, hx959, hb936⟩ := bindS hb936
          refine o_cut (fun σ' H' => ∃ G' : Hp, Wo G H [] G' H' [(p829, cL rI s958)] ∧ Evl.Ex G939 G' ∧ σ' = [some vscript0, some (V.ref p829), some (V.int x854), some (V.int s934.2), some (V.int s891.1), some (V.int x944)]) ?_ ?_
          · obtain ⟨b947, hx963, hx959⟩ := bindS hx959
            refine x_if w940 (et_orP (et_T (e_op rr_gt (e_var (R := rI) (x := s934.2) rfl rfl) e_int)) (et_T (e_op rr_eqI (e_var (R := rI) (x := x944) rfl rfl) e_int))) hx963 ?_ ?_
            · intro hbb947 H964 w965
              subst hbb947
              have hx959 := bifT hx959
              obtain ⟨a966, hx968, hx959⟩ := bindS hx959
              obtain ⟨pot_here_967, hx969, hx959⟩ := bindS hx959
              obtain ⟨hs970, rfl⟩ := appM_ok hx969
              refine x_app (j := 0) w965 rfl hs970 rfl (e_op rr_mod (e_cb rc_intI (ea_cons (e_var (R := rI) (x := s934.2) rfl rfl) ea_nil)) e_int) (by first | (simp only [be1, bs1, ba1] at hx968 ⊢; exact hx968) | exact hx968) ?_
              intro H971 G972 w973 e974
              have h975 := Rep.mono _ e974 h946
              have w973 : Wo G H [] G972 H971 [(p829, cL rI (s934.1 ++ [a966]))] := w973
              refine x_next ?_
              have hx959 : (s934.1 ++ [a966]) = s958 := Option.some.inj hx959
              subst hx959
              exact ⟨G972, w973, e974, rfl⟩
            · intro hbb947 H976 w977
              subst hbb947
              have hx959 := bifF hx959
              refine x_next ?_
              have hx959 : s934.1 = s958 := Option.some.inj hx959
              subst hx959
              exact ⟨G939, w977, (Evl.Ex.refl _), rfl⟩
          · rintro σ' H980 ⟨G978, w961, e960, rfl⟩
            have h979 := Rep.mono _ e960 h946
            obtain ⟨rest_981, hx982, hb936⟩ := bindS hb936
            refine x_setI w961 (e_op rr_fdiv (e_var (R := rI) (x := s934.2) rfl rfl) e_int) (by first | (simp only [be1, bs1, ba1] at hx982 ⊢; exact hx982) | exact hx982) ?_
            intro H983 w984
            refine x_next ?_
            have hb936 : (s958, rest_981) = q938 := Option.some.inj hb936
            subst hb936
            exact ⟨G978, (s958, rest_981), (some (V.int x944)), w984, (e941.trans e960), rfl, hm937⟩
        · rintro σ' G985 H988 ⟨s934, u935, w986, e987, rfl, hm937⟩
          have hm937 := forS_end hm937
          subst hm937
          have h990 := Rep.mono _ e987 h925
          refine x_next ?_
          have hb846 : s934.1 = q848 := Option.some.inj hb846
          subst hb846
          exact ⟨G985, s934.1, (u935), (some (V.int s891.1)), (some (V.int x854)), (some (V.int s934.2)), w986, ((e851.trans e893).trans e987), rfl, hm847⟩
    · rintro σ' G991 H994 ⟨s841, u842, u843, u844, u845, w992, e993, rfl, hm847⟩
      have hm847 := forS_end hm847
      subst hm847
      have h996 := Rep.mono _ e993 h833
      refine x_drop ?_
      obtain ⟨pot_here_997, hx998, h⟩ := bindS h
      cases hx998
      refine o_bm0 (j := 0) w992 rfl rfl (c_rev (j := 0) w992 rfl ?_)
      intro H999 w1000
      have w1000 : Wo G H [] G991 H999 [(p829, cL rI s841.reverse)] := w1000
      have h : s841.reverse = r := Option.some.inj h
      subst h
      refine x_retO (o_var rfl ?_)
      exact k _ _ _ n831 w1000.upE (w1000.sub1 (i := 0) rfl)
def m__law_draw (pot_here0 : (List Int)) (many0 : Int) : Option (Int × (List Int)) :=
  (some ((pot_here0.length : Int) == (0 : Int)) >>= fun b1001 => bif b1001 then (some (0 : Int) >>= fun a1005 => some (a1005, pot_here0)) else (popM pot_here0 >>= fun x1009 => (some many0 >>= fun x1016 => (modM x1009.1 x1016 >>= fun x1020 => some (x1020, x1009.2)))))
theorem sc__law_draw : FnScope ["_law_pot_here", "_law_many"] ["_law_pot_here", "_law_many"] (defScope s__law_draw) := ⟨rfl, rfl, rfl, by decide +kernel, rfl, by decide +kernel, by decide +kernel⟩
theorem ok__law_draw (T : Tx K mg) : Fk P w K mg base CX0 1 "_law_draw" ["_law_pot_here", "_law_many"] (P1 (aC rI aN) rI rI (fun ys i => m__law_draw ys i.1)) := by
  obtain ⟨fd, F⟩ := T.def_ 18 rfl
  have nd := sc__law_draw.nd
  refine fk_mk T.toTx (x := "_law_draw") (T.glo 23 rfl) F (fun _ _ _ _ _ _ us hl => match us, hl with | [_, _], _ => rfl) (F.ok sc__law_draw (fun vs H Q E h => ?_) (fun cdv A outer s H vs Q E hr h => ?_))
  · obtain ⟨G, ⟨l, ⟨many0, ⟨⟩⟩⟩, pot_here0, r, k', ⟨_, _, rfl, rfl, ⟨vmany0, _, rfl, hmany0, rfl⟩⟩, wd, h, k⟩ := h
    rfl
  · obtain ⟨G, ⟨l, ⟨many0, ⟨⟩⟩⟩, pot_here0, r, k', ⟨_, _, rfl, rfl, ⟨vmany0, _, rfl, hmany0, rfl⟩⟩, wd, h, k⟩ := h
    cases hmany0
    have e0 : Evl.Ex G H := wd.ex
    have w0 : Wo G H [l] G H _ := Wo.startC wd
    have h : m__law_draw pot_here0 many0 = some (r, k') := h
    unfold m__law_draw at h
    refine ⟨_, PSs.nox (pss_cons (ps_if (pt_cmpR op_eq (pe_callB (r := rLn K) call_len_seq (by rfl) (fr_len T) (by decide +kernel) (pa_cons (pv 0) pa_nil)) pe_int (nomark _)) (pss_cons (ps_ret pe_int) pss_nil) pss_nil) (pss_cons (ps_ret (pe_op op_mod (pe_callTy call_int1 (by rfl) (fr_int T) (by decide +kernel) (pa_cons (pe_bm0 PySem.F.plainAttrs_list PySem.F.slot_list_pop PySem.F.type_list_pop mt_pop (pv 0)) pa_nil)) (pv 1))) pss_nil)), ?_⟩
    obtain ⟨b1001, hx1002, h⟩ := bindS h
    refine x_if w0 (et_T (e_op rr_eqI (e_cb rc_lenL (ea_cons (e_var (R := (rL rI)) (x := pot_here0) rfl (w0.rlAt (i := 0) rfl)) ea_nil)) e_int)) hx1002 ?_ ?_
    · intro hbb1001 H1003 w1004
      subst hbb1001
      have h := bifT h
      obtain ⟨a1005, hx1006, h⟩ := bindS h
      obtain ⟨h8, h9⟩ : a1005 = r ∧ pot_here0 = k' := Prod.mk.inj (Option.some.inj h)
      subst h8
      subst h9
      exact x_ret w1004 e_int hx1006 (fun v9 H9 G9 w9 e9 r9 => k v9 H9 G9 w9.f (w9.sub1 (i := 0) rfl) r9)
    · intro hbb1001 H1007 w1008
      subst hbb1001
      have h := bifF h
      refine x_next ?_
      refine x_retO ?_
      refine o_op ?_
      refine o_cb ?_
      refine o_cons ?_
      obtain ⟨x1009, hx1010, h⟩ := bindS h
      refine o_bm0 (j := 0) w1008 rfl rfl (c_pop (j := 0) w1008 rfl hx1010 ?_)
      intro v1011 H1012 w1013 r1014
      cases r1014
      have w1013 : Wo G H [l] G H1012 [(l, cL rI x1009.2)] := w1013
      refine o_nil ?_
      refine Or.inl ⟨_, rfl, ?_⟩
      obtain ⟨x1016, hx1017, h⟩ := bindS h
      refine c_i w1013 (e_var (R := rI) (x := many0) rfl rfl) hx1017 ?_
      intro H1018 w1019
      obtain ⟨x1020, hx1021, h⟩ := bindS h
      refine c_rr rr_mod w1019 rfl rfl hx1021 ?_
      intro u1022 H1023 G1024 w1025 e1026 r1027
      cases r1027
      obtain ⟨h8, h9⟩ : x1020 = r ∧ x1009.2 = k' := Prod.mk.inj (Option.some.inj h)
      subst h8
      subst h9
      exact k _ _ _ w1025.f (w1025.sub1 (i := 0) rfl) rfl
def m__law_masks_b2 (x1106 : (Int × (List Int))) (x1139 : Int) (s1129 : (List Int)) : Option (List Int) :=
  ((some (!s1129.any fun z => z == (Builtin.bitAnd x1139 x1106.1)) >>= fun b1147 => bif b1147 then (some (Builtin.bitAnd x1139 x1106.1) >>= fun a1166 => appM s1129 a1166 >>= fun more_1167 => some more_1167) else some s1129) >>= fun s1158 => some (s1158))
def m__law_masks_b1 (most0 : Int) (x1099 : Int) (s1084 : ((List Int) × (List Int))) : Option ((List Int) × (List Int)) :=
  (some (32 : Int) >>= fun x1101 => (m__law_draw s1084.2 x1101 >>= fun x1106 => (some s1084.1 >>= fun more_1115 => (some s1084.1 >>= fun xs1124 => forS (m__law_masks_b2 x1106) xs1124 more_1115 >>= fun s1129 => ((some (decide ((s1129.length : Int) ≤ most0)) >>= fun b1193 => bif b1193 then (some s1129 >>= fun masks_here_1214 => some masks_here_1214) else some s1084.1) >>= fun s1204 => some ((s1204, x1106.2)))))))
def m__law_masks_b3 (x1273 : Int) (s1263 : ((List Int) × ((List Int) × (List Int)))) : Option ((List Int) × ((List Int) × (List Int))) :=
  (some (s1263.2.2.length : Int) >>= fun x1275 => (m__law_draw s1263.2.1 x1275 >>= fun x1280 => (popAtM s1263.2.2 x1280.1 >>= fun x1289 => (appM s1263.1 x1289.1 >>= fun masks_here_1296 => some ((masks_here_1296, (x1280.2, x1289.2)))))))
def m__law_masks (pot_here0 : (List Int)) (most0 : Int) : Option ((List Int) × (List Int)) :=
  (some ([(31 : Int)]) >>= fun masks_here_1028 => (some (6 : Int) >>= fun x1036 => (m__law_draw pot_here0 x1036 >>= fun x1041 => (some (1 : Int) >>= fun x1051 => (some (x1041.1 + x1051) >>= fun x1055 => (some (6 : Int) >>= fun x1065 => (modM x1055 x1065 >>= fun x1069 => (rngM 0 x1069 >>= fun xs1079 => forS (m__law_masks_b1 most0) xs1079 (masks_here_1028, x1041.2) >>= fun s1084 => ((if s1084.1.length < 64 then some (srtI s1084.1) else none) >>= fun rest_1234 => (some (rest_1234.length : Int) >>= fun size_1243 => (some ([]) >>= fun masks_here_1247 => (some size_1243 >>= fun n1256 => rngM 0 n1256 >>= fun xs1258 => forS (m__law_masks_b3) xs1258 (masks_here_1247, (s1084.2, rest_1234)) >>= fun s1263 => some (s1263.1, s1263.2.1)))))))))))))
theorem sc__law_masks : FnScope ["_law_pot_here", "_law_most", "_law_masks_here", "_law_k", "_law_rest", "_law_size", "_law_mask", "_law_more", "_law_old"] ["_law_pot_here", "_law_most"] (defScope s__law_masks) := ⟨rfl, rfl, rfl, by decide +kernel, rfl, by decide +kernel, by decide +kernel⟩
theorem ok__law_masks (T : Tx K mg) : Fk P w K mg base CX0 2 "_law_masks" ["_law_pot_here", "_law_most"] (P1L (aC rI aN) rI rI (fun ys i => m__law_masks ys i.1)) := by
  obtain ⟨fd__law_draw, G__law_draw, b__law_draw, k__law_draw, g__law_draw⟩ := ok__law_draw (w := w) (base := base) T
  obtain ⟨fd, F⟩ := T.def_ 19 rfl
  have nd := sc__law_masks.nd
  refine fk_mk T.toTx (x := "_law_masks") (T.glo 24 rfl) F (fun _ _ _ _ _ _ us hl => match us, hl with | [_, _], _ => rfl) (F.ok sc__law_masks (fun vs H Q E h => ?_) (fun cdv A outer s H vs Q E hr h => ?_))
  · obtain ⟨G, ⟨l, ⟨most0, ⟨⟩⟩⟩, pot_here0, r, k', ⟨_, _, rfl, rfl, ⟨vmost0, _, rfl, hmost0, rfl⟩⟩, wd, h, k⟩ := h
    rfl
  · obtain ⟨G, ⟨l, ⟨most0, ⟨⟩⟩⟩, pot_here0, r, k', ⟨_, _, rfl, rfl, ⟨vmost0, _, rfl, hmost0, rfl⟩⟩, wd, h, k⟩ := h
    cases hmost0
    have e0 : Evl.Ex G H := wd.ex
    have w0 : Wo G H [l] G H _ := Wo.startC wd
    have h : m__law_masks pot_here0 most0 = some (r, k') := h
    unfold m__law_masks at h
    refine ⟨_, PSs.nox (pss_cons (ps_set (i := 2) nd rfl (Or.inl rfl) (pe_lst (pa_cons pe_int pa_nil))) (pss_cons (ps_for PassesOwn.never rfl (pi_range1 (by rfl) (fr_range T) (pa_cons (pe_op op_mod (pe_callTy call_int1 (by rfl) (fr_int T) (by decide +kernel) (pa_cons (pe_op op_add (pe_call G__law_draw (hr.mono (by decide)) rfl g__law_draw k__law_draw b__law_draw .nil pass0 (pa_cons (pv 0) (pa_cons pe_int pa_nil))) pe_int) pa_nil)) pe_int) pa_nil)) (pg_name (i := 3) nd rfl (Or.inl rfl)) (pss_cons (ps_set (i := 6) nd rfl (Or.inl rfl) (pe_call G__law_draw (hr.mono (by decide)) rfl g__law_draw k__law_draw b__law_draw .nil pass0 (pa_cons (pv 0) (pa_cons pe_int pa_nil)))) (pss_cons (ps_set (i := 7) nd rfl (Or.inl rfl) (pe_callTy (r := rLs K) call_list_of (by rfl) (fr_list T) (by decide +kernel) (pa_cons (pv 2) pa_nil))) (pss_cons (ps_for PassesOwn.never rfl (pi_list (pv 2)) (pg_name (i := 8) nd rfl (Or.inl rfl)) (Evl.pss_cut (ps_if (pt_cmpR (r := rIn K true) op_notIn_seq (pe_op op_and (pv 8) (pv 6)) (pv 7) (by rfl)) (pss_cons (ps_expr (pe_bm PySem.F.plainAttrs_list PySem.F.slot_list_append PySem.F.type_list_append mt_append (pv 7) (pa_cons (pe_op op_and (pv 8) (pv 6)) pa_nil))) pss_nil) pss_nil) pss_nil)) (Evl.pss_cut (ps_if (pt_cmpR op_le (pe_callB (r := rLn K) call_len_seq (by rfl) (fr_len T) (by decide +kernel) (pa_cons (pv 7) pa_nil)) (pv 1) (nomark _)) (pss_cons (ps_set (i := 2) nd rfl (Or.inl rfl) (pe_callTy (r := rLs K) call_list_of (by rfl) (fr_list T) (by decide +kernel) (pa_cons (pv 7) pa_nil))) pss_nil) pss_nil) pss_nil))))) (pss_cons (ps_set (i := 4) nd rfl (Or.inl rfl) (pe_callB (r := rSorted K) cr_sorted (by rfl) (fr_sorted T) (by decide +kernel) (pa_cons (pv 2) pa_nil))) (pss_cons (ps_set (i := 5) nd rfl (Or.inl rfl) (pe_callB (r := rLn K) call_len_seq (by rfl) (fr_len T) (by decide +kernel) (pa_cons (pv 4) pa_nil))) (pss_cons (ps_set (i := 2) nd rfl (Or.inl rfl) (pe_lst pa_nil)) (pss_cons (ps_for PassesOwn.never rfl (pi_range1 (by rfl) (fr_range T) (pa_cons (pv 5) pa_nil)) (pg_name (i := 3) nd rfl (Or.inl rfl)) (pss_cons (ps_expr (pe_bm PySem.F.plainAttrs_list PySem.F.slot_list_append PySem.F.type_list_append mt_append (pv 2) (pa_cons (pe_bm PySem.F.plainAttrs_list PySem.F.slot_list_pop PySem.F.type_list_pop mt_popAt (pv 4) (pa_cons (pe_call G__law_draw (hr.mono (by decide)) rfl g__law_draw k__law_draw b__law_draw .nil pass0 (pa_cons (pv 0) (pa_cons (pe_callB (r := rLn K) call_len_seq (by rfl) (fr_len T) (by decide +kernel) (pa_cons (pv 4) pa_nil)) pa_nil))) pa_nil)) pa_nil))) pss_nil)) (pss_cons (ps_ret (pv 2)) pss_nil))))))), ?_⟩
    obtain ⟨masks_here_1028, hx1029, h⟩ := bindS h
    refine x_set w0 (EL.e (el_disp (eal_cons e_int eal_nil))) hx1029 ?_
    intro v1032 H1030 G1033 w1031 e1034 h1035
    refine o_forR ?_
    refine o_cons ?_
    refine o_op ?_
    refine o_cb ?_
    refine o_cons ?_
    refine o_op ?_
    refine o_call ?_
    refine o_cons ?_
    refine o_var rfl ?_
    refine o_cons ?_
    obtain ⟨x1036, hx1037, h⟩ := bindS h
    refine c_i w1031 e_int hx1037 ?_
    intro H1038 w1039
    refine o_nil ?_
    obtain ⟨x1041, hx1042, h⟩ := bindS h
    refine c_p1 (i := 0) (j := (x1036, ())) w1039 rfl ⟨_, _, rfl, rfl, rfl⟩ hx1042 ?_
    intro u1043 H1044 G1045 w1046 e1047 r1048
    have h1049 := Rep.mono _ e1047 h1035
    cases r1048
    have w1046 : Wo G H [l] G1045 H1044 [(l, cL rI x1041.2)] := w1046
    obtain ⟨x1051, hx1052, h⟩ := bindS h
    refine c_i w1046 e_int hx1052 ?_
    intro H1053 w1054
    obtain ⟨x1055, hx1056, h⟩ := bindS h
    refine c_rr rr_add w1054 rfl rfl hx1056 ?_
    intro u1057 H1058 G1059 w1060 e1061 r1062
    have h1063 := Rep.mono _ e1061 h1049
    cases r1062
    refine o_nil ?_
    refine Or.inl ⟨_, rfl, ?_⟩
    obtain ⟨x1065, hx1066, h⟩ := bindS h
    refine c_i w1060 e_int hx1066 ?_
    intro H1067 w1068
    obtain ⟨x1069, hx1070, h⟩ := bindS h
    refine c_rr rr_mod w1068 rfl rfl hx1070 ?_
    intro u1071 H1072 G1073 w1074 e1075 r1076
    have h1077 := Rep.mono _ e1075 h1063
    cases r1076
    refine o_nil ?_
    obtain ⟨xs1079, hx1080, h⟩ := bindS h
    obtain ⟨t1082, hx1083, h⟩ := bindS h
    refine v_forR w1074 hx1080 (fun i G' H' σ' => ∃ s1084 : ((List Int) × (List Int)), ∃ v1085 : V, ∃ u1087 : Option V, ∃ u1088 : Option V, ∃ u1089 : Option V, ∃ u1090 : Option V, Wo G H [l] G' H' [(l, cL rI s1084.2)] ∧ Evl.Ex G1073 G' ∧ σ' = [some (V.ref l), some (V.int most0), some v1085, u1087, none, none, u1088, u1089, u1090] ∧ (rL rI).r G' v1085 s1084.1 ∧ forS (m__law_masks_b1 most0) (xs1079.drop i) s1084 = some t1082) ?_ ?_ ?_
    · exact ⟨(masks_here_1028, x1041.2), v1032, (none), (none), (none), (none), w1074, (Evl.Ex.refl _), rfl, (Rep.mono _ (Evl.Ex.refl _) h1077), hx1083⟩
    · rintro i1098 x1099 σ' G1094 H1097 hx1100 ⟨s1084, v1085, u1087, u1088, u1089, u1090, w1095, e1096, rfl, h1086, hm1092⟩
      obtain ⟨q1093, hb1091, hm1092⟩ := forS_at hx1100 hm1092
      refine g_name ?_
      unfold m__law_masks_b1 at hb1091
      refine x_setO ?_
      refine o_call ?_
      refine o_cons ?_
      refine o_var rfl ?_
      refine o_cons ?_
      obtain ⟨x1101, hx1102, hb1091⟩ := bindS hb1091
      refine c_i w1095 e_int hx1102 ?_
      intro H1103 w1104
      refine o_nil ?_
      obtain ⟨x1106, hx1107, hb1091⟩ := bindS hb1091
      refine c_p1 (i := 0) (j := (x1101, ())) w1104 rfl ⟨_, _, rfl, rfl, rfl⟩ hx1107 ?_
      intro u1108 H1109 G1110 w1111 e1112 r1113
      have h1114 := Rep.mono _ e1112 h1086
      cases r1113
      have w1111 : Wo G H [l] G1110 H1109 [(l, cL rI x1106.2)] := w1111
      obtain ⟨more_1115, hx1116, hb1091⟩ := bindS hb1091
      refine x_setL w1111 (el_cb rc_listL (ea_cons (e_var (R := (rL rI)) (x := s1084.1) rfl h1114) ea_nil)) hx1116 ?_
      intro p1119 H1117 G1120 n1121 w1118 e1122
      have h1123 := Rep.mono _ e1122 h1114
      obtain ⟨xs1124, hx1125, hb1091⟩ := bindS hb1091
      obtain ⟨t1127, hx1128, hb1091⟩ := bindS hb1091
      refine x_forL w1118 (e_var (R := (rL rI)) (x := s1084.1) rfl h1123) hx1125 (fun i G' H' σ' => ∃ s1129 : (List Int), ∃ u1130 : Option V, Wo G H [l] G' H' [(p1119, cL rI s1129), (l, cL rI x1106.2)] ∧ Evl.Ex G1120 G' ∧ σ' = [some (V.ref l), some (V.int most0), some v1085, some (V.int x1099), none, none, some (V.int x1106.1), some (V.ref p1119), u1130] ∧ forS (m__law_masks_b2 x1106) (xs1124.drop i) s1129 = some t1127) (fun _ _ _ _ ⟨_, _, w, _⟩ => w.ex) ?_ ?_ ?_
      · intro G' H' w' e'
        exact ⟨more_1115, (u1090), w', e', rfl, hx1128⟩
      · rintro G1141 e1142 i1138 x1139 v1143 σ' G1134 H1137 hx1140 e1145 ⟨s1129, u1130, w1135, e1136, rfl, hm1132⟩ r1144
        obtain ⟨q1133, hb1131, hm1132⟩ := forS_at hx1140 hm1132
        have h1146 := Rep.mono _ e1136 h1123
        refine g_name ?_
        cases r1144
        unfold m__law_masks_b2 at hb1131
        obtain ⟨s1158, hx1159, hb1131⟩ := bindS hb1131
        refine o_cut (fun σ' H' => ∃ G' : Hp, Wo G H [l] G' H' [(p1119, cL rI s1158), (l, cL rI x1106.2)] ∧ Evl.Ex G1134 G' ∧ σ' = [some (V.ref l), some (V.int most0), some v1085, some (V.int x1099), none, none, some (V.int x1106.1), some (V.ref p1119), some (V.int x1139)]) ?_ ?_
        · obtain ⟨b1147, hx1163, hx1159⟩ := bindS hx1159
          refine x_if w1135 (et_T (e_op (rr_ninL flI) (e_op rr_and (e_var (R := rI) (x := x1139) rfl rfl) (e_var (R := rI) (x := x1106.1) rfl rfl)) (e_var (R := (rL rI)) (x := s1129) rfl (w1135.rlAt (i := 0) rfl)))) hx1163 ?_ ?_
          · intro hbb1147 H1164 w1165
            subst hbb1147
            have hx1159 := bifT hx1159
            obtain ⟨a1166, hx1168, hx1159⟩ := bindS hx1159
            obtain ⟨more_1167, hx1169, hx1159⟩ := bindS hx1159
            obtain ⟨hs1170, rfl⟩ := appM_ok hx1169
            refine x_app (j := 0) w1165 rfl hs1170 rfl (e_op rr_and (e_var (R := rI) (x := x1139) rfl rfl) (e_var (R := rI) (x := x1106.1) rfl rfl)) hx1168 ?_
            intro H1171 G1172 w1173 e1174
            have h1175 := Rep.mono _ e1174 h1146
            have w1173 : Wo G H [l] G1172 H1171 [(p1119, cL rI (s1129 ++ [a1166])), (l, cL rI x1106.2)] := w1173
            refine x_next ?_
            have hx1159 : (s1129 ++ [a1166]) = s1158 := Option.some.inj hx1159
            subst hx1159
            exact ⟨G1172, w1173, e1174, rfl⟩
          · intro hbb1147 H1176 w1177
            subst hbb1147
            have hx1159 := bifF hx1159
            refine x_next ?_
            have hx1159 : s1129 = s1158 := Option.some.inj hx1159
            subst hx1159
            exact ⟨G1134, w1177, (Evl.Ex.refl _), rfl⟩
        · rintro σ' H1180 ⟨G1178, w1161, e1160, rfl⟩
          have h1179 := Rep.mono _ e1160 h1146
          refine x_next ?_
          have hb1131 : s1158 = q1133 := Option.some.inj hb1131
          subst hb1131
          exact ⟨G1178, (e1145.trans e1160), s1158, (some (V.int x1139)), w1161, (e1136.trans e1160), rfl, hm1132⟩
      · rintro σ' G1181 H1184 e1185 ⟨s1129, u1130, w1182, e1183, rfl, hm1132⟩
        have hm1132 := forS_end hm1132
        subst hm1132
        have h1187 := Rep.mono _ e1183 h1123
        obtain ⟨G1188, w1189, e1190, h1191⟩ := w1182.freezeAt (i := 0) rfl n1121
        have h1192 := Rep.mono _ e1190 h1187
        have w1189 : Wo G H [l] G1188 H1184 [(l, cL rI x1106.2)] := w1189
        obtain ⟨s1204, hx1205, hb1091⟩ := bindS hb1091
        refine o_cut (fun σ' H' => ∃ v1206 : V, ∃ G' : Hp, Wo G H [l] G' H' [(l, cL rI x1106.2)] ∧ Evl.Ex G1188 G' ∧ σ' = [some (V.ref l), some (V.int most0), some v1206, some (V.int x1099), none, none, some (V.int x1106.1), some (V.ref p1119), u1130] ∧ (rL rI).r G' v1206 s1204) ?_ ?_
        · obtain ⟨b1193, hx1211, hx1205⟩ := bindS hx1205
          refine x_if w1189 (et_T (e_op rr_le (e_cb rc_lenL (ea_cons (e_var (R := (rL rI)) (x := s1129) rfl (Rep.mono _ w1189.ex h1191)) ea_nil)) (e_var (R := rI) (x := most0) rfl rfl))) hx1211 ?_ ?_
          · intro hbb1193 H1212 w1213
            subst hbb1193
            have hx1205 := bifT hx1205
            obtain ⟨masks_here_1214, hx1215, hx1205⟩ := bindS hx1205
            refine x_set w1213 (EL.e (el_cb rc_listL (ea_cons (e_var (R := (rL rI)) (x := s1129) rfl h1191) ea_nil))) hx1215 ?_
            intro v1218 H1216 G1219 w1217 e1220 h1221
            have h1222 := Rep.mono _ e1220 h1192
            have h1223 := Rep.mono _ e1220 h1191
            refine x_next ?_
            have hx1205 : masks_here_1214 = s1204 := Option.some.inj hx1205
            subst hx1205
            exact ⟨v1218, G1219, w1217, e1220, rfl, h1221⟩
          · intro hbb1193 H1224 w1225
            subst hbb1193
            have hx1205 := bifF hx1205
            refine x_next ?_
            have hx1205 : s1084.1 = s1204 := Option.some.inj hx1205
            subst hx1205
            exact ⟨v1085, G1188, w1225, (Evl.Ex.refl _), rfl, h1192⟩
        · rintro σ' H1228 ⟨v1206, G1226, w1209, e1208, rfl, h1207⟩
          have h1227 := Rep.mono _ e1208 h1191
          refine x_next ?_
          have hb1091 : (s1204, x1106.2) = q1093 := Option.some.inj hb1091
          subst hb1091
          exact ⟨G1226, (s1204, x1106.2), v1206, (some (V.int x1099)), (some (V.int x1106.1)), (some (V.ref p1119)), (u1130), w1209, (((((e1096.trans e1112).trans e1122).trans e1183).trans e1190).trans e1208), rfl, h1207, hm1092⟩
    · rintro σ' G1229 H1232 ⟨s1084, v1085, u1087, u1088, u1089, u1090, w1230, e1231, rfl, h1086, hm1092⟩
      have hm1092 := forS_end hm1092
      subst hm1092
      obtain ⟨rest_1234, hx1235, h⟩ := bindS h
      refine x_setL w1230 (el_cb rc_sorted (ea_cons (e_var (R := (rL rI)) (x := s1084.1) rfl h1086) ea_nil)) hx1235 ?_
      intro p1238 H1236 G1239 n1240 w1237 e1241
      have h1242 := Rep.mono _ e1241 h1086
      obtain ⟨size_1243, hx1244, h⟩ := bindS h
      refine x_setI w1237 (Sim.E.s scI (e_cb rc_lenL (ea_cons (e_var (R := (rL rI)) (x := rest_1234) rfl (w1237.rlAt (i := 0) rfl)) ea_nil))) hx1244 ?_
      intro H1245 w1246
      obtain ⟨masks_here_1247, hx1248, h⟩ := bindS h
      refine x_setL w1246 (el_disp (R := rI) eal_nil) hx1248 ?_
      intro p1251 H1249 G1252 n1253 w1250 e1254
      have h1255 := Rep.mono _ e1254 h1242
      obtain ⟨n1256, hx1257, h⟩ := bindS h
      obtain ⟨xs1258, hx1259, h⟩ := bindS h
      obtain ⟨t1261, hx1262, h⟩ := bindS h
      refine x_forR w1250 (ea_cons (Sim.E.is (e_var (R := rI) (x := size_1243) rfl rfl) hx1257) ea_nil) rfl hx1259 (fun i G' H' σ' => ∃ s1263 : ((List Int) × ((List Int) × (List Int))), ∃ u1264 : Option V, Wo G H [l] G' H' [(p1251, cL rI s1263.1), (p1238, cL rI s1263.2.2), (l, cL rI s1263.2.1)] ∧ Evl.Ex G1252 G' ∧ σ' = [some (V.ref l), some (V.int most0), some (V.ref p1251), u1264, some (V.ref p1238), some (V.int size_1243), u1088, u1089, u1090] ∧ forS (m__law_masks_b3) (xs1258.drop i) s1263 = some t1261) ?_ ?_ ?_
      · intro G' H' w' e'
        exact ⟨(masks_here_1247, (s1084.2, rest_1234)), (u1087), w', e', rfl, hx1262⟩
      · rintro i1272 x1273 σ' G1268 H1271 hx1274 ⟨s1263, u1264, w1269, e1270, rfl, hm1266⟩
        obtain ⟨q1267, hb1265, hm1266⟩ := forS_at hx1274 hm1266
        refine g_name ?_
        unfold m__law_masks_b3 at hb1265
        refine x_drop ?_
        refine o_bm (j := 0) w1269 rfl rfl ?_
        refine o_cons ?_
        refine o_bm (j := 1) w1269 rfl rfl ?_
        refine o_cons ?_
        refine o_call ?_
        refine o_cons ?_
        refine o_var rfl ?_
        refine o_cons ?_
        obtain ⟨x1275, hx1276, hb1265⟩ := bindS hb1265
        refine c_i w1269 (Sim.E.s scI (e_cb rc_lenL (ea_cons (e_var (R := (rL rI)) (x := s1263.2.2) rfl (w1269.rlAt (i := 1) rfl)) ea_nil))) hx1276 ?_
        intro H1277 w1278
        refine o_nil ?_
        obtain ⟨x1280, hx1281, hb1265⟩ := bindS hb1265
        refine c_p1 (i := 2) (j := (x1275, ())) w1278 rfl ⟨_, _, rfl, rfl, rfl⟩ hx1281 ?_
        intro u1282 H1283 G1284 w1285 e1286 r1287
        cases r1287
        have w1285 : Wo G H [l] G1284 H1283 [(p1251, cL rI s1263.1), (p1238, cL rI s1263.2.2), (l, cL rI x1280.2)] := w1285
        refine o_nil ?_
        obtain ⟨x1289, hx1290, hb1265⟩ := bindS hb1265
        refine c_popAt (j := 1) w1285 rfl hx1290 ?_
        intro v1291 H1292 w1293 r1294
        cases r1294
        have w1293 : Wo G H [l] G1284 H1292 [(p1251, cL rI s1263.1), (p1238, cL rI x1289.2), (l, cL rI x1280.2)] := w1293
        refine o_nil ?_
        obtain ⟨masks_here_1296, hx1297, hb1265⟩ := bindS hb1265
        obtain ⟨hs1300, q1301⟩ := appM_ok hx1297
        subst q1301
        refine c_app (j := 0) w1293 rfl hs1300 rfl ?_
        intro H1298 w1299
        have w1299 : Wo G H [l] G1284 H1298 [(p1251, cL rI (s1263.1 ++ [x1289.1])), (p1238, cL rI x1289.2), (l, cL rI x1280.2)] := w1299
        refine x_next ?_
        have hb1265 : ((s1263.1 ++ [x1289.1]), (x1280.2, x1289.2)) = q1267 := Option.some.inj hb1265
        subst hb1265
        exact ⟨G1284, ((s1263.1 ++ [x1289.1]), (x1280.2, x1289.2)), (some (V.int x1273)), w1299, (e1270.trans e1286), rfl, hm1266⟩
      · rintro σ' G1302 H1305 ⟨s1263, u1264, w1303, e1304, rfl, hm1266⟩
        have hm1266 := forS_end hm1266
        subst hm1266
        obtain ⟨h8, h9⟩ : s1263.1 = r ∧ s1263.2.1 = k' := Prod.mk.inj (Option.some.inj h)
        subst h8
        subst h9
        refine x_retO (o_var rfl ?_)
        exact k _ _ _ n1253 w1303.f (w1303.sub2 (i := 0) (j := 2) rfl rfl (by decide))
def m__law_under (masks_here0 : (List Int)) (low0 : Int) (high0 : Int) : Option Bool :=
  (((atI masks_here0 low0 >>= fun t1307 => (atI masks_here0 high0 >>= fun t1308 => some (Builtin.bitAnd t1307 t1308))) >>= fun t1309 => (atI masks_here0 low0 >>= fun t1310 => some (t1309 == t1310))) >>= fun a1311 => some a1311)
theorem sc__law_under : FnScope ["_law_masks_here", "_law_low", "_law_high"] ["_law_masks_here", "_law_low", "_law_high"] (defScope s__law_under) := ⟨rfl, rfl, rfl, by decide +kernel, rfl, by decide +kernel, by decide +kernel⟩
theorem ok__law_under (T : Tx K mg) : Fk P w K mg base CX0 1 "_law_under" ["_law_masks_here", "_law_low", "_law_high"] (PF (aC (rL rI) (aC rI (aC rI aN))) rB (fun i => m__law_under i.1 i.2.1 i.2.2.1)) := by
  obtain ⟨fd, F⟩ := T.def_ 20 rfl
  have nd := sc__law_under.nd
  refine fk_mk T.toTx (x := "_law_under") (T.glo 25 rfl) F (fun _ _ _ _ _ _ us hl => match us, hl with | [_, _, _], _ => rfl) (F.ok sc__law_under (fun vs H Q E h => ?_) (fun cdv A outer s H vs Q E hr h => ?_))
  · obtain ⟨G, ⟨masks_here0, low0, high0, ⟨⟩⟩, r, e0, ⟨vmasks_here0, _, rfl, hmasks_here0, vlow0, _, rfl, hlow0, vhigh0, _, rfl, hhigh0, rfl⟩, h, k⟩ := h
    rfl
  · obtain ⟨G, ⟨masks_here0, low0, high0, ⟨⟩⟩, r, e0, ⟨vmasks_here0, _, rfl, hmasks_here0, vlow0, _, rfl, hlow0, vhigh0, _, rfl, hhigh0, rfl⟩, h, k⟩ := h
    cases hlow0
    cases hhigh0
    have w0 := Wo.start e0
    have h : m__law_under masks_here0 low0 high0 = some r := h
    unfold m__law_under at h
    refine ⟨_, PSs.nox (pss_cons (ps_ret (pe_cmpR op_eq (pe_op op_and (pe_ix (r := rIxL K) ix_list (pv 0) (pv 1) (fun _ _ => rfl)) (pe_ix (r := rIxL K) ix_list (pv 0) (pv 2) (fun _ _ => rfl))) (pe_ix (r := rIxL K) ix_list (pv 0) (pv 1) (fun _ _ => rfl)) (nomark _))) pss_nil), ?_⟩
    obtain ⟨a1311, hx1312, h⟩ := bindS h
    have h : a1311 = r := Option.some.inj h
    subst h
    exact x_ret w0 (e_op rr_eqI (e_op rr_and (e_op rr_ixL (e_var (R := (rL rI)) (x := masks_here0) rfl hmasks_here0) (e_var (R := rI) (x := low0) rfl rfl)) (e_op rr_ixL (e_var (R := (rL rI)) (x := masks_here0) rfl hmasks_here0) (e_var (R := rI) (x := high0) rfl rfl))) (e_op rr_ixL (e_var (R := (rL rI)) (x := masks_here0) rfl hmasks_here0) (e_var (R := rI) (x := low0) rfl rfl))) (by first | (simp only [be1, bs1, ba1] at hx1312 ⊢; exact hx1312) | exact hx1312) (fun v9 H9 G9 w9 e9 r9 => k v9 H9 G9 w9.upE r9)
def m__law_pairs_b2 (x1340 : Int) (masks_here0 : (List Int)) (x1360 : Int) (s1350 : (List (Int × Int))) : Option (List (Int × Int)) :=
  (((andO (some (!(x1340 == x1360))) (m__law_under masks_here0 x1340 x1360)) >>= fun b1363 => bif b1363 then (some (x1340, x1360) >>= fun a1382 => appM s1350 a1382 >>= fun pairs_here_1383 => some pairs_here_1383) else some s1350) >>= fun s1374 => some (s1374))
def m__law_pairs_b1 (masks_here0 : (List Int)) (x1340 : Int) (s1329 : (List (Int × Int))) : Option (List (Int × Int)) :=
  (some (masks_here0.length : Int) >>= fun n1343 => rngM 0 n1343 >>= fun xs1345 => forS (m__law_pairs_b2 x1340 masks_here0) xs1345 s1329 >>= fun s1350 => some (s1350))
def m__law_pairs (masks_here0 : (List Int)) : Option (List (Int × Int)) :=
  (some ([]) >>= fun pairs_here_1313 => (some (masks_here0.length : Int) >>= fun n1322 => rngM 0 n1322 >>= fun xs1324 => forS (m__law_pairs_b1 masks_here0) xs1324 pairs_here_1313 >>= fun s1329 => some s1329))
theorem sc__law_pairs : FnScope ["_law_masks_here", "_law_pairs_here", "_law_low", "_law_high"] ["_law_masks_here"] (defScope s__law_pairs) := ⟨rfl, rfl, rfl, by decide +kernel, rfl, by decide +kernel, by decide +kernel⟩
theorem ok__law_pairs (T : Tx K mg) : Fk P w K mg base CX0 2 "_law_pairs" ["_law_masks_here"] (PL (aC (rL rI) aN) (rP rI rI) (fun i => m__law_pairs i.1)) := by
  obtain ⟨fd__law_under, G__law_under, b__law_under, k__law_under, g__law_under⟩ := ok__law_under (w := w) (base := base) T
  obtain ⟨fd, F⟩ := T.def_ 21 rfl
  have nd := sc__law_pairs.nd
  refine fk_mk T.toTx (x := "_law_pairs") (T.glo 26 rfl) F (fun _ _ _ _ _ _ us hl => match us, hl with | [_], _ => rfl) (F.ok sc__law_pairs (fun vs H Q E h => ?_) (fun cdv A outer s H vs Q E hr h => ?_))
  · obtain ⟨G, ⟨masks_here0, ⟨⟩⟩, r, e0, ⟨vmasks_here0, _, rfl, hmasks_here0, rfl⟩, h, k⟩ := h
    rfl
  · obtain ⟨G, ⟨masks_here0, ⟨⟩⟩, r, e0, ⟨vmasks_here0, _, rfl, hmasks_here0, rfl⟩, h, k⟩ := h
    have w0 := Wo.start e0
    have h : m__law_pairs masks_here0 = some r := h
    unfold m__law_pairs at h
    refine ⟨_, PSs.nox (pss_cons (ps_set (i := 1) nd rfl (Or.inl rfl) (pe_lst pa_nil)) (pss_cons (ps_for PassesOwn.never rfl (pi_range1 (by rfl) (fr_range T) (pa_cons (pe_callB (r := rLn K) call_len_seq (by rfl) (fr_len T) (by decide +kernel) (pa_cons (pv 0) pa_nil)) pa_nil)) (pg_name (i := 2) nd rfl (Or.inl rfl)) (pss_cons (ps_for PassesOwn.never rfl (pi_range1 (by rfl) (fr_range T) (pa_cons (pe_callB (r := rLn K) call_len_seq (by rfl) (fr_len T) (by decide +kernel) (pa_cons (pv 0) pa_nil)) pa_nil)) (pg_name (i := 3) nd rfl (Or.inl rfl)) (Evl.pss_cut (ps_if (PW.pt (pw_and (pt_cmpR op_ne (pv 2) (pv 3) (nomark _)) (pw_and1 (pt_val (pe_call G__law_under (hr.mono (by decide)) rfl g__law_under k__law_under b__law_under .nil pass0 (pa_cons (pv 0) (pa_cons (pv 2) (pa_cons (pv 3) pa_nil)))))))) (pss_cons (ps_expr (pe_bm PySem.F.plainAttrs_list PySem.F.slot_list_append PySem.F.type_list_append mt_append (pv 1) (pa_cons (pe_tup (pa_cons (pv 2) (pa_cons (pv 3) pa_nil))) pa_nil))) pss_nil) pss_nil) pss_nil)) pss_nil)) (pss_cons (ps_ret (pv 1)) pss_nil))), ?_⟩
    obtain ⟨pairs_here_1313, hx1314, h⟩ := bindS h
    refine x_setL w0 (el_disp (R := (rP rI rI)) eal_nil) hx1314 ?_
    intro p1317 H1315 G1318 n1319 w1316 e1320
    have h1321 := Rep.mono _ e1320 hmasks_here0
    obtain ⟨n1322, hx1323, h⟩ := bindS h
    obtain ⟨xs1324, hx1325, h⟩ := bindS h
    obtain ⟨t1327, hx1328, h⟩ := bindS h
    refine x_forR w1316 (ea_cons (Sim.E.is (e_cb rc_lenL (ea_cons (e_var (R := (rL rI)) (x := masks_here0) rfl h1321) ea_nil)) hx1323) ea_nil) rfl hx1325 (fun i G' H' σ' => ∃ s1329 : (List (Int × Int)), ∃ u1330 : Option V, ∃ u1331 : Option V, Wo G H [] G' H' [(p1317, cL (rP rI rI) s1329)] ∧ Evl.Ex G1318 G' ∧ σ' = [some vmasks_here0, some (V.ref p1317), u1331, u1330] ∧ forS (m__law_pairs_b1 masks_here0) (xs1324.drop i) s1329 = some t1327) ?_ ?_ ?_
    · intro G' H' w' e'
      exact ⟨pairs_here_1313, (none), (none), w', e', rfl, hx1328⟩
    · rintro i1339 x1340 σ' G1335 H1338 hx1341 ⟨s1329, u1330, u1331, w1336, e1337, rfl, hm1333⟩
      obtain ⟨q1334, hb1332, hm1333⟩ := forS_at hx1341 hm1333
      have h1342 := Rep.mono _ e1337 h1321
      refine g_name ?_
      unfold m__law_pairs_b1 at hb1332
      obtain ⟨n1343, hx1344, hb1332⟩ := bindS hb1332
      obtain ⟨xs1345, hx1346, hb1332⟩ := bindS hb1332
      obtain ⟨t1348, hx1349, hb1332⟩ := bindS hb1332
      refine x_forR w1336 (ea_cons (Sim.E.is (e_cb rc_lenL (ea_cons (e_var (R := (rL rI)) (x := masks_here0) rfl h1342) ea_nil)) hx1344) ea_nil) rfl hx1346 (fun i G' H' σ' => ∃ s1350 : (List (Int × Int)), ∃ u1351 : Option V, Wo G H [] G' H' [(p1317, cL (rP rI rI) s1350)] ∧ Evl.Ex G1335 G' ∧ σ' = [some vmasks_here0, some (V.ref p1317), some (V.int x1340), u1351] ∧ forS (m__law_pairs_b2 x1340 masks_here0) (xs1345.drop i) s1350 = some t1348) ?_ ?_ ?_
      · intro G' H' w' e'
        exact ⟨s1329, (u1330), w', e', rfl, hx1349⟩
      · rintro i1359 x1360 σ' G1355 H1358 hx1361 ⟨s1350, u1351, w1356, e1357, rfl, hm1353⟩
        obtain ⟨q1354, hb1352, hm1353⟩ := forS_at hx1361 hm1353
        have h1362 := Rep.mono _ e1357 h1342
        refine g_name ?_
        unfold m__law_pairs_b2 at hb1352
        obtain ⟨s1374, hx1375, hb1352⟩ := bindS hb1352
        refine o_cut (fun σ' H' => ∃ G' : Hp, Wo G H [] G' H' [(p1317, cL (rP rI rI) s1374)] ∧ Evl.Ex G1355 G' ∧ σ' = [some vmasks_here0, some (V.ref p1317), some (V.int x1340), some (V.int x1360)]) ?_ ?_
        · obtain ⟨b1363, hx1379, hx1375⟩ := bindS hx1375
          refine x_if w1356 (et_and (et_T (e_op rr_neI (e_var (R := rI) (x := x1340) rfl rfl) (e_var (R := rI) (x := x1360) rfl rfl))) (et_B (e_call (ea_cons (e_var (R := (rL rI)) (x := masks_here0) rfl (Rep.mono _ w1356.ex h1362)) (ea_cons (e_var (R := rI) (x := x1340) rfl rfl) (ea_cons (e_var (R := rI) (x := x1360) rfl rfl) ea_nil)))))) (by first | (simp only [be1, bs1, ba1] at hx1379 ⊢; exact hx1379) | exact hx1379) ?_ ?_
          · intro hbb1363 H1380 w1381
            subst hbb1363
            have hx1375 := bifT hx1375
            obtain ⟨a1382, hx1384, hx1375⟩ := bindS hx1375
            obtain ⟨pairs_here_1383, hx1385, hx1375⟩ := bindS hx1375
            obtain ⟨hs1386, rfl⟩ := appM_ok hx1385
            refine x_app (j := 0) w1381 rfl hs1386 rfl (e_pair (e_var (R := rI) (x := x1340) rfl rfl) (e_var (R := rI) (x := x1360) rfl rfl)) hx1384 ?_
            intro H1387 G1388 w1389 e1390
            have h1391 := Rep.mono _ e1390 h1362
            have w1389 : Wo G H [] G1388 H1387 [(p1317, cL (rP rI rI) (s1350 ++ [a1382]))] := w1389
            refine x_next ?_
            have hx1375 : (s1350 ++ [a1382]) = s1374 := Option.some.inj hx1375
            subst hx1375
            exact ⟨G1388, w1389, e1390, rfl⟩
          · intro hbb1363 H1392 w1393
            subst hbb1363
            have hx1375 := bifF hx1375
            refine x_next ?_
            have hx1375 : s1350 = s1374 := Option.some.inj hx1375
            subst hx1375
            exact ⟨G1355, w1393, (Evl.Ex.refl _), rfl⟩
        · rintro σ' H1396 ⟨G1394, w1377, e1376, rfl⟩
          have h1395 := Rep.mono _ e1376 h1362
          refine x_next ?_
          have hb1352 : s1374 = q1354 := Option.some.inj hb1352
          subst hb1352
          exact ⟨G1394, s1374, (some (V.int x1360)), w1377, (e1357.trans e1376), rfl, hm1353⟩
      · rintro σ' G1397 H1400 ⟨s1350, u1351, w1398, e1399, rfl, hm1353⟩
        have hm1353 := forS_end hm1353
        subst hm1353
        have h1402 := Rep.mono _ e1399 h1342
        refine x_next ?_
        have hb1332 : s1350 = q1334 := Option.some.inj hb1332
        subst hb1332
        exact ⟨G1397, s1350, (u1351), (some (V.int x1340)), w1398, (e1337.trans e1399), rfl, hm1333⟩
    · rintro σ' G1403 H1406 ⟨s1329, u1330, u1331, w1404, e1405, rfl, hm1333⟩
      have hm1333 := forS_end hm1333
      subst hm1333
      have h1408 := Rep.mono _ e1405 h1321
      have h : s1329 = r := Option.some.inj h
      subst h
      refine x_retO (o_var rfl ?_)
      exact k _ _ _ n1319 w1404.upE (w1404.sub1 (i := 0) rfl)
def m__law_names_b2 (s1428 : ((List Str) × (List Int))) (x1542 : Int) (s1532 : Str) : Option Str :=
  ((some (s1428.1.any fun z => z == s1532) >>= fun b1544 => bif b1544 then (addS s1532 ("x" : Str) >>= fun name_1557 => some name_1557) else some s1532) >>= fun s1549 => some (s1549))
def m__law_names_b1 (signs_1409 : Str) (x1440 : Int) (s1428 : ((List Str) × (List Int))) : Option ((List Str) × (List Int)) :=
  (some signs_1409 >>= fun x1442 => (some (62 : Int) >>= fun x1447 => (m__law_draw s1428.2 x1447 >>= fun x1452 => (ixS x1442 x1452.1 >>= fun x1460 => (some (4 : Int) >>= fun x1469 => (m__law_draw x1452.2 x1469 >>= fun x1474 => (mulS x1460 x1474.1 >>= fun x1482 => (some signs_1409 >>= fun x1491 => (some (62 : Int) >>= fun x1496 => (m__law_draw x1474.2 x1496 >>= fun x1501 => (ixS x1491 x1501.1 >>= fun x1509 => (addS x1482 x1509 >>= fun x1517 => (some x1440 >>= fun n1525 => rngM 0 n1525 >>= fun xs1527 => forS (m__law_names_b2 s1428) xs1527 x1517 >>= fun s1532 => (some s1532 >>= fun a1570 => appM s1428.1 a1570 >>= fun names_here_1571 => some ((names_here_1571, x1501.2))))))))))))))))
def m__law_names (pot_here0 : (List Int)) (many0 : Int) : Option ((List Str) × (List Int)) :=
  (some ("abcdefghijklmnopqrstuvwxyzABCDEFGHIJKLMNOPQRSTUVWXYZ0123456789" : Str) >>= fun signs_1409 => (some ([]) >>= fun names_here_1413 => (some many0 >>= fun n1421 => rngM 0 n1421 >>= fun xs1423 => forS (m__law_names_b1 signs_1409) xs1423 (names_here_1413, pot_here0) >>= fun s1428 => some (s1428.1, s1428.2))))
theorem sc__law_names : FnScope ["_law_pot_here", "_law_many", "_law_signs", "_law_names_here", "_law_k", "_law_name", "_law_other"] ["_law_pot_here", "_law_many"] (defScope s__law_names) := ⟨rfl, rfl, rfl, by decide +kernel, rfl, by decide +kernel, by decide +kernel⟩
theorem ok__law_names (T : Tx K mg) : Fk P w K mg base CX0 2 "_law_names" ["_law_pot_here", "_law_many"] (P1L (aC rI aN) rI rS (fun ys i => m__law_names ys i.1)) := by
  obtain ⟨fd__law_draw, G__law_draw, b__law_draw, k__law_draw, g__law_draw⟩ := ok__law_draw (w := w) (base := base) T
  obtain ⟨fd, F⟩ := T.def_ 22 rfl
  have nd := sc__law_names.nd
  refine fk_mk T.toTx (x := "_law_names") (T.glo 27 rfl) F (fun _ _ _ _ _ _ us hl => match us, hl with | [_, _], _ => rfl) (F.ok sc__law_names (fun vs H Q E h => ?_) (fun cdv A outer s H vs Q E hr h => ?_))
  · obtain ⟨G, ⟨l, ⟨many0, ⟨⟩⟩⟩, pot_here0, r, k', ⟨_, _, rfl, rfl, ⟨vmany0, _, rfl, hmany0, rfl⟩⟩, wd, h, k⟩ := h
    rfl
  · obtain ⟨G, ⟨l, ⟨many0, ⟨⟩⟩⟩, pot_here0, r, k', ⟨_, _, rfl, rfl, ⟨vmany0, _, rfl, hmany0, rfl⟩⟩, wd, h, k⟩ := h
    cases hmany0
    have e0 : Evl.Ex G H := wd.ex
    have w0 : Wo G H [l] G H _ := Wo.startC wd
    have h : m__law_names pot_here0 many0 = some (r, k') := h
    unfold m__law_names at h
    refine ⟨_, PSs.nox (pss_cons (ps_set (i := 2) nd rfl (Or.inl rfl) pe_str) (pss_cons (ps_set (i := 3) nd rfl (Or.inl rfl) (pe_lst pa_nil)) (pss_cons (ps_for PassesOwn.never rfl (pi_range1 (by rfl) (fr_range T) (pa_cons (pv 1) pa_nil)) (pg_name (i := 4) nd rfl (Or.inl rfl)) (pss_cons (ps_set (i := 5) nd rfl (Or.inl rfl) (pe_op (r := rAddS) op_add_str (pe_op (r := rMulS) op_mulS (pe_ix (r := rIxS) ix_str (pv 2) (pe_call G__law_draw (hr.mono (by decide)) rfl g__law_draw k__law_draw b__law_draw .nil pass0 (pa_cons (pv 0) (pa_cons pe_int pa_nil))) (fun _ _ => rfl)) (pe_call G__law_draw (hr.mono (by decide)) rfl g__law_draw k__law_draw b__law_draw .nil pass0 (pa_cons (pv 0) (pa_cons pe_int pa_nil)))) (pe_ix (r := rIxS) ix_str (pv 2) (pe_call G__law_draw (hr.mono (by decide)) rfl g__law_draw k__law_draw b__law_draw .nil pass0 (pa_cons (pv 0) (pa_cons pe_int pa_nil))) (fun _ _ => rfl)))) (pss_cons (ps_for PassesOwn.never rfl (pi_range1 (by rfl) (fr_range T) (pa_cons (pv 4) pa_nil)) (pg_name (i := 6) nd rfl (Or.inl rfl)) (Evl.pss_cut (ps_if (pt_cmpR (r := rIn K false) op_in_seq (pv 5) (pv 3) (by rfl)) (pss_cons (ps_set (i := 5) nd rfl (Or.inl rfl) (pe_op (r := rAddS) op_add_str (pv 5) pe_str)) pss_nil) pss_nil) pss_nil)) (pss_cons (ps_expr (pe_bm PySem.F.plainAttrs_list PySem.F.slot_list_append PySem.F.type_list_append mt_append (pv 3) (pa_cons (pv 5) pa_nil))) pss_nil)))) (pss_cons (ps_ret (pv 3)) pss_nil)))), ?_⟩
    obtain ⟨signs_1409, hx1410, h⟩ := bindS h
    refine x_setS w0 e_str hx1410 ?_
    intro H1411 w1412
    obtain ⟨names_here_1413, hx1414, h⟩ := bindS h
    refine x_setL w1412 (el_disp (R := rS) eal_nil) hx1414 ?_
    intro p1417 H1415 G1418 n1419 w1416 e1420
    obtain ⟨n1421, hx1422, h⟩ := bindS h
    obtain ⟨xs1423, hx1424, h⟩ := bindS h
    obtain ⟨t1426, hx1427, h⟩ := bindS h
    refine x_forR w1416 (ea_cons (Sim.E.is (e_var (R := rI) (x := many0) rfl rfl) hx1422) ea_nil) rfl hx1424 (fun i G' H' σ' => ∃ s1428 : ((List Str) × (List Int)), ∃ u1429 : Option V, ∃ u1430 : Option V, ∃ u1431 : Option V, Wo G H [l] G' H' [(p1417, cL rS s1428.1), (l, cL rI s1428.2)] ∧ Evl.Ex G1418 G' ∧ σ' = [some (V.ref l), some (V.int many0), some (V.str signs_1409), some (V.ref p1417), u1429, u1430, u1431] ∧ forS (m__law_names_b1 signs_1409) (xs1423.drop i) s1428 = some t1426) ?_ ?_ ?_
    · intro G' H' w' e'
      exact ⟨(names_here_1413, pot_here0), (none), (none), (none), w', e', rfl, hx1427⟩
    · rintro i1439 x1440 σ' G1435 H1438 hx1441 ⟨s1428, u1429, u1430, u1431, w1436, e1437, rfl, hm1433⟩
      obtain ⟨q1434, hb1432, hm1433⟩ := forS_at hx1441 hm1433
      refine g_name ?_
      unfold m__law_names_b1 at hb1432
      refine x_setO ?_
      refine o_op ?_
      refine o_op ?_
      refine o_op ?_
      obtain ⟨x1442, hx1443, hb1432⟩ := bindS hb1432
      refine c_s w1436 (e_var (R := rS) (x := signs_1409) rfl rfl) hx1443 ?_
      intro H1444 w1445
      refine o_call ?_
      refine o_cons ?_
      refine o_var rfl ?_
      refine o_cons ?_
      obtain ⟨x1447, hx1448, hb1432⟩ := bindS hb1432
      refine c_i w1445 e_int hx1448 ?_
      intro H1449 w1450
      refine o_nil ?_
      obtain ⟨x1452, hx1453, hb1432⟩ := bindS hb1432
      refine c_p1 (i := 1) (j := (x1447, ())) w1450 rfl ⟨_, _, rfl, rfl, rfl⟩ hx1453 ?_
      intro u1454 H1455 G1456 w1457 e1458 r1459
      cases r1459
      have w1457 : Wo G H [l] G1456 H1455 [(p1417, cL rS s1428.1), (l, cL rI x1452.2)] := w1457
      obtain ⟨x1460, hx1461, hb1432⟩ := bindS hb1432
      refine c_rr rr_ixS w1457 rfl rfl hx1461 ?_
      intro u1462 H1463 G1464 w1465 e1466 r1467
      cases r1467
      refine o_call ?_
      refine o_cons ?_
      refine o_var rfl ?_
      refine o_cons ?_
      obtain ⟨x1469, hx1470, hb1432⟩ := bindS hb1432
      refine c_i w1465 e_int hx1470 ?_
      intro H1471 w1472
      refine o_nil ?_
      obtain ⟨x1474, hx1475, hb1432⟩ := bindS hb1432
      refine c_p1 (i := 1) (j := (x1469, ())) w1472 rfl ⟨_, _, rfl, rfl, rfl⟩ hx1475 ?_
      intro u1476 H1477 G1478 w1479 e1480 r1481
      cases r1481
      have w1479 : Wo G H [l] G1478 H1477 [(p1417, cL rS s1428.1), (l, cL rI x1474.2)] := w1479
      obtain ⟨x1482, hx1483, hb1432⟩ := bindS hb1432
      refine c_rr rr_mulS w1479 rfl rfl hx1483 ?_
      intro u1484 H1485 G1486 w1487 e1488 r1489
      cases r1489
      refine o_op ?_
      obtain ⟨x1491, hx1492, hb1432⟩ := bindS hb1432
      refine c_s w1487 (e_var (R := rS) (x := signs_1409) rfl rfl) hx1492 ?_
      intro H1493 w1494
      refine o_call ?_
      refine o_cons ?_
      refine o_var rfl ?_
      refine o_cons ?_
      obtain ⟨x1496, hx1497, hb1432⟩ := bindS hb1432
      refine c_i w1494 e_int hx1497 ?_
      intro H1498 w1499
      refine o_nil ?_
      obtain ⟨x1501, hx1502, hb1432⟩ := bindS hb1432
      refine c_p1 (i := 1) (j := (x1496, ())) w1499 rfl ⟨_, _, rfl, rfl, rfl⟩ hx1502 ?_
      intro u1503 H1504 G1505 w1506 e1507 r1508
      cases r1508
      have w1506 : Wo G H [l] G1505 H1504 [(p1417, cL rS s1428.1), (l, cL rI x1501.2)] := w1506
      obtain ⟨x1509, hx1510, hb1432⟩ := bindS hb1432
      refine c_rr rr_ixS w1506 rfl rfl hx1510 ?_
      intro u1511 H1512 G1513 w1514 e1515 r1516
      cases r1516
      obtain ⟨x1517, hx1518, hb1432⟩ := bindS hb1432
      refine c_rr rr_addS w1514 rfl rfl hx1518 ?_
      intro u1519 H1520 G1521 w1522 e1523 r1524
      cases r1524
      obtain ⟨n1525, hx1526, hb1432⟩ := bindS hb1432
      obtain ⟨xs1527, hx1528, hb1432⟩ := bindS hb1432
      obtain ⟨t1530, hx1531, hb1432⟩ := bindS hb1432
      refine x_forR w1522 (ea_cons (Sim.E.is (e_var (R := rI) (x := x1440) rfl rfl) hx1526) ea_nil) rfl hx1528 (fun i G' H' σ' => ∃ s1532 : Str, ∃ u1533 : Option V, Wo G H [l] G' H' [(p1417, cL rS s1428.1), (l, cL rI x1501.2)] ∧ Evl.Ex G1521 G' ∧ σ' = [some (V.ref l), some (V.int many0), some (V.str signs_1409), some (V.ref p1417), some (V.int x1440), some (V.str s1532), u1533] ∧ forS (m__law_names_b2 s1428) (xs1527.drop i) s1532 = some t1530) ?_ ?_ ?_
      · intro G' H' w' e'
        exact ⟨x1517, (u1431), w', e', rfl, hx1531⟩
      · rintro i1541 x1542 σ' G1537 H1540 hx1543 ⟨s1532, u1533, w1538, e1539, rfl, hm1535⟩
        obtain ⟨q1536, hb1534, hm1535⟩ := forS_at hx1543 hm1535
        refine g_name ?_
        unfold m__law_names_b2 at hb1534
        obtain ⟨s1549, hx1550, hb1534⟩ := bindS hb1534
        refine o_cut (fun σ' H' => ∃ G' : Hp, Wo G H [l] G' H' [(p1417, cL rS s1428.1), (l, cL rI x1501.2)] ∧ Evl.Ex G1537 G' ∧ σ' = [some (V.ref l), some (V.int many0), some (V.str signs_1409), some (V.ref p1417), some (V.int x1440), some (V.str s1549), some (V.int x1542)]) ?_ ?_
        · obtain ⟨b1544, hx1554, hx1550⟩ := bindS hx1550
          refine x_if w1538 (et_T (e_op (rr_inL flS) (e_var (R := rS) (x := s1532) rfl rfl) (e_var (R := (rL rS)) (x := s1428.1) rfl (w1538.rlAt (i := 0) rfl)))) hx1554 ?_ ?_
          · intro hbb1544 H1555 w1556
            subst hbb1544
            have hx1550 := bifT hx1550
            obtain ⟨name_1557, hx1558, hx1550⟩ := bindS hx1550
            refine x_setS w1556 (e_op rr_addS (e_var (R := rS) (x := s1532) rfl rfl) e_str) (by first | (simp only [be1, bs1, ba1] at hx1558 ⊢; exact hx1558) | exact hx1558) ?_
            intro H1559 w1560
            refine x_next ?_
            have hx1550 : name_1557 = s1549 := Option.some.inj hx1550
            subst hx1550
            exact ⟨G1537, w1560, (Evl.Ex.refl _), rfl⟩
          · intro hbb1544 H1561 w1562
            subst hbb1544
            have hx1550 := bifF hx1550
            refine x_next ?_
            have hx1550 : s1532 = s1549 := Option.some.inj hx1550
            subst hx1550
            exact ⟨G1537, w1562, (Evl.Ex.refl _), rfl⟩
        · rintro σ' H1564 ⟨G1563, w1552, e1551, rfl⟩
          refine x_next ?_
          have hb1534 : s1549 = q1536 := Option.some.inj hb1534
          subst hb1534
          exact ⟨G1563, s1549, (some (V.int x1542)), w1552, (e1539.trans e1551), rfl, hm1535⟩
      · rintro σ' G1565 H1568 ⟨s1532, u1533, w1566, e1567, rfl, hm1535⟩
        have hm1535 := forS_end hm1535
        subst hm1535
        obtain ⟨a1570, hx1572, hb1432⟩ := bindS hb1432
        obtain ⟨names_here_1571, hx1573, hb1432⟩ := bindS hb1432
        obtain ⟨hs1574, rfl⟩ := appM_ok hx1573
        refine x_app (j := 0) w1566 rfl hs1574 rfl (e_var (R := rS) (x := s1532) rfl rfl) hx1572 ?_
        intro H1575 G1576 w1577 e1578
        have w1577 : Wo G H [l] G1576 H1575 [(p1417, cL rS (s1428.1 ++ [a1570])), (l, cL rI x1501.2)] := w1577
        refine x_next ?_
        have hb1432 : ((s1428.1 ++ [a1570]), x1501.2) = q1434 := Option.some.inj hb1432
        subst hb1432
        exact ⟨G1576, ((s1428.1 ++ [a1570]), x1501.2), (some (V.int x1440)), (some (V.str s1532)), (u1533), w1577, (((((((((e1437.trans e1458).trans e1466).trans e1480).trans e1488).trans e1507).trans e1515).trans e1523).trans e1567).trans e1578), rfl, hm1433⟩
    · rintro σ' G1579 H1582 ⟨s1428, u1429, u1430, u1431, w1580, e1581, rfl, hm1433⟩
      have hm1433 := forS_end hm1433
      subst hm1433
      obtain ⟨h8, h9⟩ : s1428.1 = r ∧ s1428.2 = k' := Prod.mk.inj (Option.some.inj h)
      subst h8
      subst h9
      refine x_retO (o_var rfl ?_)
      exact k _ _ _ n1419 w1580.f (w1580.sub2 (i := 0) (j := 1) rfl rfl (by decide))
def m_Record___init___b1 (x1609 : (Str × Int)) (s1598 : (List Str)) : Option (List Str) :=
  (some (s1598.any fun z => z == x1609.1) >>= fun b1621 => bif b1621 then none else (some x1609.1 >>= fun a1627 => appM s1598 a1627 >>= fun names_1628 => some (names_1628)))
def m_Record___init__ (name0 : Str) (asks0 : (List (Str × Int))) (result0 : Int) : Option m_Record :=
  (some ([]) >>= fun names_1584 => (some asks0 >>= fun xs1593 => forS (m_Record___init___b1) xs1593 names_1584 >>= fun s1598 => (some name0 >>= fun f1644 => ((mapS (fun x1654 => some (x1654.1, x1654.2)) asks0 >>= fun t1662 => some t1662) >>= fun f1663 => (some result0 >>= fun f1670 => some (m_Record.mk f1644 f1663 f1670))))))
theorem sc_Record___init__ : FnScope ["self", "name", "asks", "result", "names", "asked", "answer"] ["self", "name", "asks", "result"] (defScope s_Record___init__) := ⟨rfl, rfl, rfl, by decide +kernel, rfl, by decide +kernel, by decide +kernel⟩
theorem ok_Record___init__ (T : Tx K mg) : Fm P w K mg base CX0 1 "Record" "__init__" ["self", "name", "asks", "result"] (PIs (He.ga K "Record") (aC rS (aC (rL (rP rS rI)) (aC rI aN))) (fl_Record K) (fun i => m_Record___init__ i.1 i.2.1 i.2.2.1)) := by
  obtain ⟨fd, F⟩ := T.def_ 0 rfl
  have nd := sc_Record___init__.nd
  refine fm_mk F (fun _ _ _ _ _ _ us hl => match us, hl with | [_, _, _, _], _ => rfl) (F.ok sc_Record___init__ (fun vs H Q E h => ?_) (fun cdv A outer s H vs Q E hr h => ?_))
  · obtain ⟨G, l, ld, _, ⟨name0, asks0, result0, ⟨⟩⟩, r, rfl, wd, ⟨vname0, _, rfl, hname0, vasks0, _, rfl, hasks0, vresult0, _, rfl, hresult0, rfl⟩, h, k⟩ := h
    rfl
  · obtain ⟨G, l, ld, _, ⟨name0, asks0, result0, ⟨⟩⟩, r, rfl, wd, ⟨vname0, _, rfl, hname0, vasks0, _, rfl, hasks0, vresult0, _, rfl, hresult0, rfl⟩, h, k⟩ := h
    cases hname0
    cases hresult0
    have w0 : Wo G H [l, ld] G H _ := Wo.startC wd
    have h : m_Record___init__ name0 asks0 result0 = some r := h
    unfold m_Record___init__ at h
    refine ⟨_, PSs.nox (pss_cons (ps_set (i := 4) nd rfl (Or.inl rfl) (pe_lst pa_nil)) (pss_cons (ps_for PassesOwn.never rfl (pi_list (pv 2)) (pg_tup (by rfl) (pgs_cons (pg_name (i := 5) nd rfl (by first | exact Or.inl rfl | exact Or.inr rfl)) (pgs_cons (pg_name (i := 6) nd rfl (by first | exact Or.inl rfl | exact Or.inr rfl)) pgs_nil))) (pss_cons (ps_if (pt_cmpR (r := rIn K false) op_in_seq (pv 5) (pv 4) (by rfl)) (pss_cons ps_never pss_nil) pss_nil) (pss_cons (ps_expr (pe_bm PySem.F.plainAttrs_list PySem.F.slot_list_append PySem.F.type_list_append mt_append (pv 4) (pa_cons (pv 5) pa_nil))) pss_nil))) (pss_cons (SlX.ps_sl (pv 0) (pv 1) (by rfl)) (pss_cons (SlX.ps_sl (pv 0) (pe_callTy (r := rTp K) call_tuple_of (by rfl) (fr_tuple T) (by decide +kernel) (pa_cons (pe_lc (own := [("asked", 5), ("answer", 6)]) (by rfl) nd (show L2.PI _ _ _ (iList K _) from pi_list (pv 2)) (blkOk_by (by kernel_rfl)) (fun _ _ _ _ _ => show L2.PG _ _ (gTup K 2 (gCons (gName 5) (gCons (gName 6) gNil))) from pg_tup (by rfl) (pgs_cons (pg_name (i := 5) nd rfl (by first | exact Or.inl rfl | exact Or.inr rfl)) (pgs_cons (pg_name (i := 6) nd rfl (by first | exact Or.inl rfl | exact Or.inr rfl)) pgs_nil))) (fun _ _ _ _ _ => pts_nil) (fun _ _ _ _ _ => (pe_tup (pa_cons (pv 5) (pa_cons (pv 6) pa_nil))))) pa_nil)) (by rfl)) (pss_cons (SlX.ps_sl (pv 0) (pv 3) (by rfl)) pss_nil))))), ?_⟩
    obtain ⟨names_1584, hx1585, h⟩ := bindS h
    refine x_setL w0 (el_disp (R := rS) eal_nil) hx1585 ?_
    intro p1588 H1586 G1589 n1590 w1587 e1591
    have h1592 := Rep.mono _ e1591 hasks0
    obtain ⟨xs1593, hx1594, h⟩ := bindS h
    obtain ⟨t1596, hx1597, h⟩ := bindS h
    refine x_forL w1587 (e_var (R := (rL (rP rS rI))) (x := asks0) rfl h1592) hx1594 (fun i G' H' σ' => ∃ s1598 : (List Str), ∃ u1599 : Option V, ∃ u1600 : Option V, Wo G H [l, ld] G' H' [(p1588, cL rS s1598), (l, cN (He.ga K "Record") ld), (ld, cOw l)] ∧ Evl.Ex G1589 G' ∧ σ' = [some (V.ref l), some (V.str name0), some vasks0, some (V.int result0), some (V.ref p1588), u1600, u1599] ∧ forS (m_Record___init___b1) (xs1593.drop i) s1598 = some t1596) (fun _ _ _ _ ⟨_, _, _, w, _⟩ => w.ex) ?_ ?_ ?_
    · intro G' H' w' e'
      exact ⟨names_1584, (none), (none), w', e', rfl, hx1597⟩
    · rintro G1611 e1612 i1608 x1609 v1613 σ' G1604 H1607 hx1610 e1615 ⟨s1598, u1599, u1600, w1605, e1606, rfl, hm1602⟩ r1614
      obtain ⟨q1603, hb1601, hm1602⟩ := forS_at hx1610 hm1602
      have h1616 := Rep.mono _ e1606 h1592
      refine g_pair (i := 5) (j := 6) r1614 w1605.ex ?_
      intro v1617 v1618 r1619 r1620
      cases r1619
      cases r1620
      unfold m_Record___init___b1 at hb1601
      obtain ⟨b1621, hx1622, hb1601⟩ := bindS hb1601
      refine x_if w1605 (et_T (e_op (rr_inL flS) (e_var (R := rS) (x := x1609.1) rfl rfl) (e_var (R := (rL rS)) (x := s1598) rfl (w1605.rlAt (i := 0) rfl)))) hx1622 ?_ ?_
      · intro hbb1621 H1623 w1624
        subst hbb1621
        have hb1601 := bifT hb1601
        cases (show none = some _ from hb1601)
      · intro hbb1621 H1625 w1626
        subst hbb1621
        have hb1601 := bifF hb1601
        refine x_next ?_
        obtain ⟨a1627, hx1629, hb1601⟩ := bindS hb1601
        obtain ⟨names_1628, hx1630, hb1601⟩ := bindS hb1601
        obtain ⟨hs1631, rfl⟩ := appM_ok hx1630
        refine x_app (j := 0) w1626 rfl hs1631 rfl (e_var (R := rS) (x := x1609.1) rfl rfl) hx1629 ?_
        intro H1632 G1633 w1634 e1635
        have h1636 := Rep.mono _ e1635 h1616
        have w1634 : Wo G H [l, ld] G1633 H1632 [(p1588, cL rS (s1598 ++ [a1627])), (l, cN (He.ga K "Record") ld), (ld, cOw l)] := w1634
        refine x_next ?_
        have hb1601 : (s1598 ++ [a1627]) = q1603 := Option.some.inj hb1601
        subst hb1601
        exact ⟨G1633, (e1615.trans e1635), (s1598 ++ [a1627]), (some (V.int x1609.2)), (some (V.str x1609.1)), w1634, (e1606.trans e1635), rfl, hm1602⟩
    · rintro σ' G1637 H1640 e1641 ⟨s1598, u1599, u1600, w1638, e1639, rfl, hm1602⟩
      have hm1602 := forS_end hm1602
      subst hm1602
      have h1643 := Rep.mono _ e1639 h1592
      obtain ⟨f1644, hx1645, h⟩ := bindS h
      refine x_sl1 (j := 1) (j2 := 2) w1638 rfl rfl rfl (e_var (R := rS) (x := name0) rfl rfl) hx1645 (scl_ok (T.mo 1 rfl)) (slot_ok (T.mo 2 rfl)) (by decide) ?_
      intro H1646 G1647 w1648 e1649
      have h1650 := Rep.mono _ e1649 h1643
      have w1648 : Wo G H [l, ld] G1647 H1646 [(p1588, cL rS s1598), (l, cSl l (He.ga K "Record") ld [(1, pd rS f1644)]), (ld, cXd)] := w1648
      obtain ⟨f1663, hx1664, h⟩ := bindS h
      refine x_slN (j := 1) (j2 := 2) w1648 rfl rfl rfl (e_cb rc_tupleL (ea_cons (EL.e (el_map (el_lcP (j := 6) (e_var (R := (rL (rP rS rI))) (x := asks0) rfl h1650) (fun _ _ => rfl) (fun _ _ _ _ _ _ _ _ _ _ => et_yes) (fun x1654 v1657 v1658 G1655 W1656 eG1651 eW1652 eX1653 h1659 h1660 => (e_pair (e_var (R := rS) (x := x1654.1) rfl h1659) (e_var (R := rI) (x := x1654.2) rfl h1660)))))) ea_nil)) (by first | (simp only [be1, bs1, ba1] at hx1664 ⊢; exact hx1664) | exact hx1664) (scl_ok (T.mo 1 rfl)) (slot_ok (T.mo 3 rfl)) (by decide) (by simp) ?_
      intro H1665 G1666 w1667 e1668
      have h1669 := Rep.mono _ e1668 h1650
      have w1667 : Wo G H [l, ld] G1666 H1665 [(p1588, cL rS s1598), (l, cSl l (He.ga K "Record") ld [(1, pd rS f1644), (0, pd (rT (rP rS rI)) f1663)]), (ld, cXd)] := w1667
      obtain ⟨f1670, hx1671, h⟩ := bindS h
      refine x_slN (j := 1) (j2 := 2) w1667 rfl rfl rfl (e_var (R := rI) (x := result0) rfl rfl) hx1671 (scl_ok (T.mo 1 rfl)) (slot_ok (T.mo 4 rfl)) (by decide) (by simp) ?_
      intro H1672 G1673 w1674 e1675
      have h1676 := Rep.mono _ e1675 h1669
      have w1674 : Wo G H [l, ld] G1673 H1672 [(p1588, cL rS s1598), (l, cSl l (He.ga K "Record") ld [(1, pd rS f1644), (0, pd (rT (rP rS rI)) f1663), (2, pd rI f1670)]), (ld, cXd)] := w1674
      refine x_next ?_
      have h : (m_Record.mk f1644 f1663 f1670) = r := Option.some.inj h
      subst h
      exact k _ _ w1674.f (w1674.sub2 (i := 1) (j := 2) rfl rfl (by decide))
def m_Record_answer_b1 (name0 : Str) (x1693 : (Str × Int)) (s1682 : Unit) : Option (Stp Unit (Option Int)) :=
  (some (decide (x1693.1 = name0)) >>= fun b1705 => bif b1705 then (some (some x1693.2) >>= fun a1709 => some (Stp.rt a1709)) else some (Stp.nx ()))
def m_Record_answer (self0 : m_Record) (name0 : Str) : Option (Option Int) :=
  (some self0.asks >>= fun xs1677 => forL (m_Record_answer_b1 name0) xs1677 () >>= Sum.elim (fun s1682 => (some (none : (Option Int)) >>= fun a1720 => some a1720)) (fun r => some r))
theorem sc_Record_answer : FnScope ["self", "name", "asked", "answer"] ["self", "name"] (defScope s_Record_answer) := ⟨rfl, rfl, rfl, by decide +kernel, rfl, by decide +kernel, by decide +kernel⟩
theorem ok_Record_answer (T : Tx K mg) : Fm P w K mg base CX0 1 "Record" "answer" ["self", "name"] (PF (aC (r_Record K) (aC rS aN)) (rO rI) (fun i => m_Record_answer i.1 i.2.1)) := by
  obtain ⟨fd, F⟩ := T.def_ 1 rfl
  have nd := sc_Record_answer.nd
  refine fm_mk F (fun _ _ _ _ _ _ us hl => match us, hl with | [_, _], _ => rfl) (F.ok sc_Record_answer (fun vs H Q E h => ?_) (fun cdv A outer s H vs Q E hr h => ?_))
  · obtain ⟨G, ⟨self0, name0, ⟨⟩⟩, r, e0, ⟨vself0, _, rfl, hself0, vname0, _, rfl, hname0, rfl⟩, h, k⟩ := h
    rfl
  · obtain ⟨G, ⟨self0, name0, ⟨⟩⟩, r, e0, ⟨vself0, _, rfl, hself0, vname0, _, rfl, hname0, rfl⟩, h, k⟩ := h
    cases hname0
    have w0 := Wo.start e0
    have h : m_Record_answer self0 name0 = some r := h
    unfold m_Record_answer at h
    refine ⟨_, PSs.nox (pss_cons (ps_for PassesOwn.never rfl (pi_tup (SlX.pe_sl (pv 0) (by rfl))) (pg_tup (by rfl) (pgs_cons (pg_name (i := 2) nd rfl (by first | exact Or.inl rfl | exact Or.inr rfl)) (pgs_cons (pg_name (i := 3) nd rfl (by first | exact Or.inl rfl | exact Or.inr rfl)) pgs_nil))) (pss_cons (ps_if (pt_cmpR op_eq (pv 2) (pv 1) (nomark _)) (pss_cons (ps_ret (pv 3)) pss_nil) pss_nil) pss_nil)) (pss_cons (ps_ret pe_non) pss_nil)), ?_⟩
    obtain ⟨xs1677, hx1678, h⟩ := bindS h
    obtain ⟨t1680, hx1681, h⟩ := bindS h
    refine x_forT w0 (e_sl (fun (o : m_Record) => o.asks) (e_var (R := (r_Record K)) (x := self0) rfl hself0) (scl_ok (T.mo 1 rfl)) (slot_ok (T.mo 3 rfl)) (fun _ => (List.mem_cons_of_mem _ (List.mem_cons_self ..)))) hx1678 (fun i G' H' σ' => ∃ s1682 : Unit, ∃ u1683 : Option V, ∃ u1684 : Option V, Wo G H [] G' H' [] ∧ Evl.Ex G G' ∧ σ' = [some vself0, some (V.str name0), u1684, u1683] ∧ forL (m_Record_answer_b1 name0) (xs1677.drop i) s1682 = some t1680) (fun _ _ _ _ ⟨_, _, _, w, _⟩ => w.ex) ?_ ?_ ?_
    · intro G' H' w' e'
      exact ⟨(), (none), (none), w', e', rfl, hx1681⟩
    · rintro G1695 e1696 i1692 x1693 v1697 σ' G1688 H1691 hx1694 e1699 ⟨s1682, u1683, u1684, w1689, e1690, rfl, hm1686⟩ r1698
      obtain ⟨q1687, hb1685, hm1686⟩ := forL_at hx1694 hm1686
      have h1700 := Rep.mono _ e1690 hself0
      refine g_pair (i := 2) (j := 3) r1698 w1689.ex ?_
      intro v1701 v1702 r1703 r1704
      cases r1703
      cases r1704
      unfold m_Record_answer_b1 at hb1685
      obtain ⟨b1705, hx1706, hb1685⟩ := bindS hb1685
      refine x_if w1689 (et_T (e_op rr_eqS (e_var (R := rS) (x := x1693.1) rfl rfl) (e_var (R := rS) (x := name0) rfl rfl))) hx1706 ?_ ?_
      · intro hbb1705 H1707 w1708
        subst hbb1705
        have hb1685 := bifT hb1685
        obtain ⟨a1709, hx1710, hb1685⟩ := bindS hb1685
        have hb1685 : some (Stp.rt a1709) = some q1687 := hb1685
        cases hb1685
        have hm1686 : some (Sum.inr a1709) = some t1680 := hm1686
        cases hm1686
        have h : a1709 = r := Option.some.inj h
        subst h
        exact x_ret w1708 (e_some (e_var (R := rI) (x := x1693.2) rfl rfl)) hx1710 (fun v9 H9 G9 w9 e9 r9 => k v9 H9 G9 w9.upE r9)
      · intro hbb1705 H1711 w1712
        subst hbb1705
        have hb1685 := bifF hb1685
        refine x_next ?_
        refine x_next ?_
        have hb1685 : Stp.nx () = q1687 := Option.some.inj hb1685
        subst hb1685
        exact ⟨G1688, (e1699.trans (Evl.Ex.refl _)), (), (some (V.int x1693.2)), (some (V.str x1693.1)), w1712, e1690, rfl, hm1686⟩
    · rintro σ' G1713 H1716 e1717 ⟨s1682, u1683, u1684, w1714, e1715, rfl, hm1686⟩
      have hm1686 := forL_end hm1686
      subst hm1686
      have h := elimL h
      have h1719 := Rep.mono _ e1715 hself0
      obtain ⟨a1720, hx1721, h⟩ := bindS h
      have h : a1720 = r := Option.some.inj h
      subst h
      exact x_ret w1714 (e_none (R := rI)) hx1721 (fun v9 H9 G9 w9 e9 r9 => k v9 H9 G9 w9.upE r9)
def m_same_start_b1 (x1744 : ((Str × Int) × (Str × Int))) (s1733 : Int) : Option (Stp Int Int) :=
  (some (!decide (x1744.1 = x1744.2)) >>= fun b1757 => bif b1757 then (some s1733 >>= fun a1761 => some (Stp.rt a1761)) else (some (1 : Int) >>= fun b1765 => some (s1733 + b1765) >>= fun count_1766 => some (Stp.nx count_1766)))
def m_same_start (first0 : m_Record) (second0 : m_Record) : Option Int :=
  (some (0 : Int) >>= fun count_1722 => (some first0.asks >>= fun zs1726 => some second0.asks >>= fun zs1728 => forL (m_same_start_b1) (List.zip zs1726 zs1728) count_1722 >>= Sum.elim (fun s1733 => (some s1733 >>= fun a1779 => some a1779)) (fun r => some r)))
theorem sc_same_start : FnScope ["first", "second", "count", "one", "other"] ["first", "second"] (defScope s_same_start) := ⟨rfl, rfl, rfl, by decide +kernel, rfl, by decide +kernel, by decide +kernel⟩
theorem ok_same_start (T : Tx K mg) : Fk P w K mg base CX0 1 "same_start" ["first", "second"] (PF (aC (r_Record K) (aC (r_Record K) aN)) rI (fun i => m_same_start i.1 i.2.1)) := by
  obtain ⟨fd, F⟩ := T.def_ 2 rfl
  have nd := sc_same_start.nd
  refine fk_mk T.toTx (x := "same_start") (T.glo 9 rfl) F (fun _ _ _ _ _ _ us hl => match us, hl with | [_, _], _ => rfl) (F.ok sc_same_start (fun vs H Q E h => ?_) (fun cdv A outer s H vs Q E hr h => ?_))
  · obtain ⟨G, ⟨first0, second0, ⟨⟩⟩, r, e0, ⟨vfirst0, _, rfl, hfirst0, vsecond0, _, rfl, hsecond0, rfl⟩, h, k⟩ := h
    rfl
  · obtain ⟨G, ⟨first0, second0, ⟨⟩⟩, r, e0, ⟨vfirst0, _, rfl, hfirst0, vsecond0, _, rfl, hsecond0, rfl⟩, h, k⟩ := h
    have w0 := Wo.start e0
    have h : m_same_start first0 second0 = some r := h
    unfold m_same_start at h
    refine ⟨_, PSs.nox (pss_cons (ps_set (i := 2) nd rfl (Or.inl rfl) pe_int) (pss_cons (ps_for PassesOwn.never rfl (RZ.pi_zipA (by rfl) (fr_zip T) (pa_cons (SlX.pe_sl (pv 0) (by rfl)) (pa_cons (SlX.pe_sl (pv 1) (by rfl)) pa_nil))) (pg_tup (by rfl) (pgs_cons (pg_name (i := 3) nd rfl (by first | exact Or.inl rfl | exact Or.inr rfl)) (pgs_cons (pg_name (i := 4) nd rfl (by first | exact Or.inl rfl | exact Or.inr rfl)) pgs_nil))) (pss_cons (ps_if (pt_cmpR (r := rNeP K) (op_neP hr.units) (pv 3) (pv 4) (nomark _)) (pss_cons (ps_ret (pv 2)) pss_nil) pss_nil) (pss_cons (ps_aug (i := 2) nd rfl (Or.inl rfl) pe_int ip_add) pss_nil))) (pss_cons (ps_ret (pv 2)) pss_nil))), ?_⟩
    obtain ⟨count_1722, hx1723, h⟩ := bindS h
    refine x_setI w0 e_int hx1723 ?_
    intro H1724 w1725
    obtain ⟨zs1726, hx1727, h⟩ := bindS h
    obtain ⟨zs1728, hx1729, h⟩ := bindS h
    obtain ⟨t1731, hx1732, h⟩ := bindS h
    refine x_forZ w1725 (ea_cons (Sim.E.is (e_sl (fun (o : m_Record) => o.asks) (e_var (R := (r_Record K)) (x := first0) rfl hfirst0) (scl_ok (T.mo 1 rfl)) (slot_ok (T.mo 3 rfl)) (fun _ => (List.mem_cons_of_mem _ (List.mem_cons_self ..)))) hx1727) (ea_cons (Sim.E.is (e_sl (fun (o : m_Record) => o.asks) (e_var (R := (r_Record K)) (x := second0) rfl hsecond0) (scl_ok (T.mo 1 rfl)) (slot_ok (T.mo 3 rfl)) (fun _ => (List.mem_cons_of_mem _ (List.mem_cons_self ..)))) hx1729) ea_nil)) rfl (fun i G' H' σ' => ∃ s1733 : Int, ∃ u1734 : Option V, ∃ u1735 : Option V, Wo G H [] G' H' [] ∧ Evl.Ex G G' ∧ σ' = [some vfirst0, some vsecond0, some (V.int s1733), u1734, u1735] ∧ forL (m_same_start_b1) ((List.zip zs1726 zs1728).drop i) s1733 = some t1731) (fun _ _ _ _ ⟨_, _, _, w, _⟩ => w.ex) (by rintro _ _ _ _ _ _ ⟨zs, u1734, u1735, zw, ze, zq, zm⟩ hT; exact ⟨zs, u1734, u1735, zw.up (Up.lay zw.ex hT), ze.trans (Evl.Ex.new (Evl.fresh_back zw.ex hT)), zq, zm⟩) ?_ ?_ ?_
    · intro G' H' w' e'
      exact ⟨count_1722, (none), (none), w', e', rfl, hx1732⟩
    · rintro G1746 e1747 i1743 x1744 v1748 σ' G1739 H1742 hx1745 e1750 ⟨s1733, u1734, u1735, w1740, e1741, rfl, hm1737⟩ r1749
      obtain ⟨q1738, hb1736, hm1737⟩ := forL_at hx1745 hm1737
      have h1751 := Rep.mono _ e1741 hfirst0
      have h1752 := Rep.mono _ e1741 hsecond0
      refine g_pair (i := 3) (j := 4) r1749 w1740.ex ?_
      intro v1753 v1754 r1755 r1756
      unfold m_same_start_b1 at hb1736
      obtain ⟨b1757, hx1758, hb1736⟩ := bindS hb1736
      refine x_if w1740 (et_T (e_op (rr_neD (dtP dtS dtI) (by decide)) (e_var (R := (rP rS rI)) (x := x1744.1) rfl (Rep.mono _ w1740.ex r1755)) (e_var (R := (rP rS rI)) (x := x1744.2) rfl (Rep.mono _ w1740.ex r1756)))) hx1758 ?_ ?_
      · intro hbb1757 H1759 w1760
        subst hbb1757
        have hb1736 := bifT hb1736
        obtain ⟨a1761, hx1762, hb1736⟩ := bindS hb1736
        have hb1736 : some (Stp.rt a1761) = some q1738 := hb1736
        cases hb1736
        have hm1737 : some (Sum.inr a1761) = some t1731 := hm1737
        cases hm1737
        have h : a1761 = r := Option.some.inj h
        subst h
        exact x_ret w1760 (e_var (R := rI) (x := s1733) rfl rfl) hx1762 (fun v9 H9 G9 w9 e9 r9 => k v9 H9 G9 w9.upE r9)
      · intro hbb1757 H1763 w1764
        subst hbb1757
        have hb1736 := bifF hb1736
        refine x_next ?_
        obtain ⟨b1765, hx1767, hb1736⟩ := bindS hb1736
        obtain ⟨count_1766, hx1768, hb1736⟩ := bindS hb1736
        refine x_aug w1764 rfl e_int hx1767 rr_add hx1768 ?_
        intro H1769 w1770
        refine x_next ?_
        have hb1736 : Stp.nx count_1766 = q1738 := Option.some.inj hb1736
        subst hb1736
        exact ⟨G1739, (e1750.trans (Evl.Ex.refl _)), count_1766, (some v1753), (some v1754), w1770, e1741, rfl, hm1737⟩
    · rintro σ' G1771 H1774 e1775 ⟨s1733, u1734, u1735, w1772, e1773, rfl, hm1737⟩
      have hm1737 := forL_end hm1737
      subst hm1737
      have h := elimL h
      have h1777 := Rep.mono _ e1773 hfirst0
      have h1778 := Rep.mono _ e1773 hsecond0
      obtain ⟨a1779, hx1780, h⟩ := bindS h
      have h : a1779 = r := Option.some.inj h
      subst h
      exact x_ret w1772 (e_var (R := rI) (x := s1733) rfl rfl) hx1780 (fun v9 H9 G9 w9 e9 r9 => k v9 H9 G9 w9.upE r9)
def m_shape_clash (first0 : m_Record) (second0 : m_Record) : Option Bool :=
  (m_same_start first0 second0 >>= fun start_1781 => (some ((start_1781 == (first0.asks.length : Int)) || (start_1781 == (second0.asks.length : Int))) >>= fun b1785 => bif b1785 then (some (!((first0.asks.length : Int) == (second0.asks.length : Int))) >>= fun a1789 => some a1789) else (((atI first0.asks start_1781 >>= fun t1793 => some t1793.1) >>= fun t1795 => ((atI second0.asks start_1781 >>= fun t1794 => some t1794.1) >>= fun t1796 => some (!(decide (t1795 = t1796))))) >>= fun a1797 => some a1797)))
theorem sc_shape_clash : FnScope ["first", "second", "start"] ["first", "second"] (defScope s_shape_clash) := ⟨rfl, rfl, rfl, by decide +kernel, rfl, by decide +kernel, by decide +kernel⟩
theorem ok_shape_clash (T : Tx K mg) : Fk P w K mg base CX0 2 "shape_clash" ["first", "second"] (PF (aC (r_Record K) (aC (r_Record K) aN)) rB (fun i => m_shape_clash i.1 i.2.1)) := by
  obtain ⟨fd_same_start, G_same_start, b_same_start, k_same_start, g_same_start⟩ := ok_same_start (w := w) (base := base) T
  obtain ⟨fd, F⟩ := T.def_ 3 rfl
  have nd := sc_shape_clash.nd
  refine fk_mk T.toTx (x := "shape_clash") (T.glo 10 rfl) F (fun _ _ _ _ _ _ us hl => match us, hl with | [_, _], _ => rfl) (F.ok sc_shape_clash (fun vs H Q E h => ?_) (fun cdv A outer s H vs Q E hr h => ?_))
  · obtain ⟨G, ⟨first0, second0, ⟨⟩⟩, r, e0, ⟨vfirst0, _, rfl, hfirst0, vsecond0, _, rfl, hsecond0, rfl⟩, h, k⟩ := h
    rfl
  · obtain ⟨G, ⟨first0, second0, ⟨⟩⟩, r, e0, ⟨vfirst0, _, rfl, hfirst0, vsecond0, _, rfl, hsecond0, rfl⟩, h, k⟩ := h
    have w0 := Wo.start e0
    have h : m_shape_clash first0 second0 = some r := h
    unfold m_shape_clash at h
    refine ⟨_, PSs.nox (pss_cons (ps_set (i := 2) nd rfl (Or.inl rfl) (pe_call G_same_start (hr.mono (by decide)) rfl g_same_start k_same_start b_same_start .nil pass0 (pa_cons (pv 0) (pa_cons (pv 1) pa_nil)))) (pss_cons (ps_if (PW.pt (pw_or (pt_cmpR op_eq (pv 2) (pe_callB (r := rLn K) call_len_seq (by rfl) (fr_len T) (by decide +kernel) (pa_cons (show L2.PE _ _ (SlX.tSl K _ _) from (SlX.pe_sl (pv 0) (by rfl))) pa_nil)) (nomark _)) (pw_or1 (pt_cmpR op_eq (pv 2) (pe_callB (r := rLn K) call_len_seq (by rfl) (fr_len T) (by decide +kernel) (pa_cons (show L2.PE _ _ (SlX.tSl K _ _) from (SlX.pe_sl (pv 1) (by rfl))) pa_nil)) (nomark _))))) (pss_cons (ps_ret (pe_cmpR op_ne (pe_callB (r := rLn K) call_len_seq (by rfl) (fr_len T) (by decide +kernel) (pa_cons (SlX.pe_sl (pv 0) (by rfl)) pa_nil)) (pe_callB (r := rLn K) call_len_seq (by rfl) (fr_len T) (by decide +kernel) (pa_cons (SlX.pe_sl (pv 1) (by rfl)) pa_nil)) (nomark _))) pss_nil) pss_nil) (pss_cons (ps_ret (pe_cmpR op_ne (pe_ix (r := rIxT K) ix_tup (pe_ix (r := rIxT K) ix_tup (SlX.pe_sl (pv 0) (by rfl)) (pv 2) (fun _ _ => rfl)) pe_int (fun _ _ => rfl)) (pe_ix (r := rIxT K) ix_tup (pe_ix (r := rIxT K) ix_tup (SlX.pe_sl (pv 1) (by rfl)) (pv 2) (fun _ _ => rfl)) pe_int (fun _ _ => rfl)) (nomark _))) pss_nil))), ?_⟩
    obtain ⟨start_1781, hx1782, h⟩ := bindS h
    refine x_setI w0 (e_call (ea_cons (e_var (R := (r_Record K)) (x := first0) rfl hfirst0) (ea_cons (e_var (R := (r_Record K)) (x := second0) rfl hsecond0) ea_nil))) (by first | (simp only [be1, bs1, ba1] at hx1782 ⊢; exact hx1782) | exact hx1782) ?_
    intro H1783 w1784
    obtain ⟨b1785, hx1786, h⟩ := bindS h
    refine x_if w1784 (et_orP (et_T (e_op rr_eqI (e_var (R := rI) (x := start_1781) rfl rfl) (e_cb rc_lenT (ea_cons (e_sl (fun (o : m_Record) => o.asks) (e_var (R := (r_Record K)) (x := first0) rfl (Rep.mono _ w1784.ex hfirst0)) (scl_ok (T.mo 1 rfl)) (slot_ok (T.mo 3 rfl)) (fun _ => (List.mem_cons_of_mem _ (List.mem_cons_self ..)))) ea_nil)))) (et_T (e_op rr_eqI (e_var (R := rI) (x := start_1781) rfl rfl) (e_cb rc_lenT (ea_cons (e_sl (fun (o : m_Record) => o.asks) (e_var (R := (r_Record K)) (x := second0) rfl (Rep.mono _ w1784.ex hsecond0)) (scl_ok (T.mo 1 rfl)) (slot_ok (T.mo 3 rfl)) (fun _ => (List.mem_cons_of_mem _ (List.mem_cons_self ..)))) ea_nil))))) hx1786 ?_ ?_
    · intro hbb1785 H1787 w1788
      subst hbb1785
      have h := bifT h
      obtain ⟨a1789, hx1790, h⟩ := bindS h
      have h : a1789 = r := Option.some.inj h
      subst h
      exact x_ret w1788 (e_op rr_neI (e_cb rc_lenT (ea_cons (e_sl (fun (o : m_Record) => o.asks) (e_var (R := (r_Record K)) (x := first0) rfl hfirst0) (scl_ok (T.mo 1 rfl)) (slot_ok (T.mo 3 rfl)) (fun _ => (List.mem_cons_of_mem _ (List.mem_cons_self ..)))) ea_nil)) (e_cb rc_lenT (ea_cons (e_sl (fun (o : m_Record) => o.asks) (e_var (R := (r_Record K)) (x := second0) rfl hsecond0) (scl_ok (T.mo 1 rfl)) (slot_ok (T.mo 3 rfl)) (fun _ => (List.mem_cons_of_mem _ (List.mem_cons_self ..)))) ea_nil))) hx1790 (fun v9 H9 G9 w9 e9 r9 => k v9 H9 G9 w9.upE r9)
    · intro hbb1785 H1791 w1792
      subst hbb1785
      have h := bifF h
      refine x_next ?_
      obtain ⟨a1797, hx1798, h⟩ := bindS h
      have h : a1797 = r := Option.some.inj h
      subst h
      exact x_ret w1792 (e_op rr_neS (e_fst (e_op rr_ixT (e_sl (fun (o : m_Record) => o.asks) (e_var (R := (r_Record K)) (x := first0) rfl hfirst0) (scl_ok (T.mo 1 rfl)) (slot_ok (T.mo 3 rfl)) (fun _ => (List.mem_cons_of_mem _ (List.mem_cons_self ..)))) (e_var (R := rI) (x := start_1781) rfl rfl))) (e_fst (e_op rr_ixT (e_sl (fun (o : m_Record) => o.asks) (e_var (R := (r_Record K)) (x := second0) rfl hsecond0) (scl_ok (T.mo 1 rfl)) (slot_ok (T.mo 3 rfl)) (fun _ => (List.mem_cons_of_mem _ (List.mem_cons_self ..)))) (e_var (R := rI) (x := start_1781) rfl rfl)))) (by first | (simp only [be1, bs1, ba1] at hx1798 ⊢; exact hx1798) | exact hx1798) (fun v9 H9 G9 w9 e9 r9 => k v9 H9 G9 w9.upE r9)
def m_falls_b1 (upper0 : m_Record) (order0 : m_Order) (x1816 : (Str × Int)) (s1804 : Unit) : Option (Stp Unit Bool) :=
  (m_Record_answer upper0 x1816.1 >>= fun other_1830 => ((andO (some other_1830.isSome) (((other_1830 >>= fun t1841 => m_Order_below order0 x1816.2 t1841) >>= fun t1842 => some (!t1842)))) >>= fun b1843 => bif b1843 then (some false >>= fun a1847 => some (Stp.rt a1847)) else some (Stp.nx ())))
def m_falls (lower0 : m_Record) (upper0 : m_Record) (order0 : m_Order) : Option Bool :=
  (some lower0.asks >>= fun xs1799 => forL (m_falls_b1 upper0 order0) xs1799 () >>= Sum.elim (fun s1804 => ((m_Order_below order0 lower0.result upper0.result >>= fun t1860 => some (!t1860)) >>= fun a1861 => some a1861)) (fun r => some r))
theorem sc_falls : FnScope ["lower", "upper", "order", "name", "answer", "other"] ["lower", "upper", "order"] (defScope s_falls) := ⟨rfl, rfl, rfl, by decide +kernel, rfl, by decide +kernel, by decide +kernel⟩
theorem ok_falls (T : Tx K mg) : Fk P w K mg base CX0 3 "falls" ["lower", "upper", "order"] (PF (aC (r_Record K) (aC (r_Record K) (aC (r_Order K) aN))) rB (fun i => m_falls i.1 i.2.1 i.2.2.1)) := by
  obtain ⟨fd_Record_answer, G_Record_answer, b_Record_answer⟩ := ok_Record_answer (w := w) (base := base) T
  obtain ⟨fd_Order_below, G_Order_below, b_Order_below⟩ := ok_Order_below (w := w) (base := base) T
  obtain ⟨fd, F⟩ := T.def_ 4 rfl
  have nd := sc_falls.nd
  refine fk_mk T.toTx (x := "falls") (T.glo 11 rfl) F (fun _ _ _ _ _ _ us hl => match us, hl with | [_, _, _], _ => rfl) (F.ok sc_falls (fun vs H Q E h => ?_) (fun cdv A outer s H vs Q E hr h => ?_))
  · obtain ⟨G, ⟨lower0, upper0, order0, ⟨⟩⟩, r, e0, ⟨vlower0, _, rfl, hlower0, vupper0, _, rfl, hupper0, vorder0, _, rfl, horder0, rfl⟩, h, k⟩ := h
    rfl
  · obtain ⟨G, ⟨lower0, upper0, order0, ⟨⟩⟩, r, e0, ⟨vlower0, _, rfl, hlower0, vupper0, _, rfl, hupper0, vorder0, _, rfl, horder0, rfl⟩, h, k⟩ := h
    have w0 := Wo.start e0
    have h : m_falls lower0 upper0 order0 = some r := h
    unfold m_falls at h
    refine ⟨_, PSs.nox (pss_cons (ps_for PassesOwn.never rfl (pi_tup (SlX.pe_sl (pv 0) (by rfl))) (pg_tup (by rfl) (pgs_cons (pg_name (i := 3) nd rfl (by first | exact Or.inl rfl | exact Or.inr rfl)) (pgs_cons (pg_name (i := 4) nd rfl (by first | exact Or.inl rfl | exact Or.inr rfl)) pgs_nil))) (pss_cons (ps_set (i := 5) nd rfl (Or.inl rfl) (SlX.pe_methSl (pv 1) (scl_ok (T.mo 1 rfl)) (T.meth 55 rfl) (fnR_of G_Record_answer b_Record_answer) (hr.mono (by decide)) pass0 (pa_cons (pv 3) pa_nil))) (pss_cons (ps_if (PW.pt (pw_and (pt_cmpR op_notN (pv 5) pe_non (nomark _)) (pw_and1 (pt_not (pt_val (pe_meth (pv 2) (T.cls 48 rfl) (T.meth 56 rfl) G_Order_below (hr.mono (by decide)) b_Order_below .nil pass0 (pa_cons (pv 4) (pa_cons (pv 5) pa_nil)))))))) (pss_cons (ps_ret pe_bl) pss_nil) pss_nil) pss_nil))) (pss_cons (ps_ret (pe_not (pe_meth (pv 2) (T.cls 48 rfl) (T.meth 56 rfl) G_Order_below (hr.mono (by decide)) b_Order_below .nil pass0 (pa_cons (SlX.pe_sl (pv 0) (by rfl)) (pa_cons (SlX.pe_sl (pv 1) (by rfl)) pa_nil))))) pss_nil)), ?_⟩
    obtain ⟨xs1799, hx1800, h⟩ := bindS h
    obtain ⟨t1802, hx1803, h⟩ := bindS h
    refine x_forT w0 (e_sl (fun (o : m_Record) => o.asks) (e_var (R := (r_Record K)) (x := lower0) rfl hlower0) (scl_ok (T.mo 1 rfl)) (slot_ok (T.mo 3 rfl)) (fun _ => (List.mem_cons_of_mem _ (List.mem_cons_self ..)))) hx1800 (fun i G' H' σ' => ∃ s1804 : Unit, ∃ u1805 : Option V, ∃ u1806 : Option V, ∃ u1807 : Option V, Wo G H [] G' H' [] ∧ Evl.Ex G G' ∧ σ' = [some vlower0, some vupper0, some vorder0, u1806, u1805, u1807] ∧ forL (m_falls_b1 upper0 order0) (xs1799.drop i) s1804 = some t1802) (fun _ _ _ _ ⟨_, _, _, _, w, _⟩ => w.ex) ?_ ?_ ?_
    · intro G' H' w' e'
      exact ⟨(), (none), (none), (none), w', e', rfl, hx1803⟩
    · rintro G1818 e1819 i1815 x1816 v1820 σ' G1811 H1814 hx1817 e1822 ⟨s1804, u1805, u1806, u1807, w1812, e1813, rfl, hm1809⟩ r1821
      obtain ⟨q1810, hb1808, hm1809⟩ := forL_at hx1817 hm1809
      have h1823 := Rep.mono _ e1813 hlower0
      have h1824 := Rep.mono _ e1813 hupper0
      have h1825 := Rep.mono _ e1813 horder0
      refine g_pair (i := 3) (j := 4) r1821 w1812.ex ?_
      intro v1826 v1827 r1828 r1829
      cases r1828
      cases r1829
      unfold m_falls_b1 at hb1808
      obtain ⟨other_1830, hx1831, hb1808⟩ := bindS hb1808
      refine x_set w1812 (e_methS (e_var (R := (r_Record K)) (x := upper0) rfl h1824) (ea_cons (e_var (R := rS) (x := x1816.1) rfl rfl) ea_nil)) (by first | (simp only [be1, bs1, ba1] at hx1831 ⊢; exact hx1831) | exact hx1831) ?_
      intro v1834 H1832 G1835 w1833 e1836 h1837
      have h1838 := Rep.mono _ e1836 h1823
      have h1839 := Rep.mono _ e1836 h1824
      have h1840 := Rep.mono _ e1836 h1825
      obtain ⟨b1843, hx1844, hb1808⟩ := bindS hb1808
      refine x_if w1833 (et_and (et_T (e_op (rr_notN nnI) (e_var (R := (rO rI)) (x := other_1830) rfl (Rep.mono _ w1833.ex h1837)) e_non)) (et_not (et_B (e_meth (e_var (R := (r_Order K)) (x := order0) rfl (Rep.mono _ w1833.ex h1840)) (ea_cons (e_var (R := rI) (x := x1816.2) rfl rfl) (ea_cons (e_get (e_var (R := (rO rI)) (x := other_1830) rfl (Rep.mono _ w1833.ex h1837))) ea_nil)) (by decide +kernel))))) (by first | (simp only [be1, bs1, ba1] at hx1844 ⊢; exact hx1844) | exact hx1844) ?_ ?_
      · intro hbb1843 H1845 w1846
        subst hbb1843
        have hb1808 := bifT hb1808
        obtain ⟨a1847, hx1848, hb1808⟩ := bindS hb1808
        have hb1808 : some (Stp.rt a1847) = some q1810 := hb1808
        cases hb1808
        have hm1809 : some (Sum.inr a1847) = some t1802 := hm1809
        cases hm1809
        have h : a1847 = r := Option.some.inj h
        subst h
        exact x_ret w1846 e_bl hx1848 (fun v9 H9 G9 w9 e9 r9 => k v9 H9 G9 w9.upE r9)
      · intro hbb1843 H1849 w1850
        subst hbb1843
        have hb1808 := bifF hb1808
        refine x_next ?_
        refine x_next ?_
        have hb1808 : Stp.nx () = q1810 := Option.some.inj hb1808
        subst hb1808
        exact ⟨G1835, (e1822.trans e1836), (), (some (V.int x1816.2)), (some (V.str x1816.1)), (some v1834), w1850, (e1813.trans e1836), rfl, hm1809⟩
    · rintro σ' G1851 H1854 e1855 ⟨s1804, u1805, u1806, u1807, w1852, e1853, rfl, hm1809⟩
      have hm1809 := forL_end hm1809
      subst hm1809
      have h := elimL h
      have h1857 := Rep.mono _ e1853 hlower0
      have h1858 := Rep.mono _ e1853 hupper0
      have h1859 := Rep.mono _ e1853 horder0
      obtain ⟨a1861, hx1862, h⟩ := bindS h
      have h : a1861 = r := Option.some.inj h
      subst h
      exact x_ret w1852 (e_notV (e_meth (e_var (R := (r_Order K)) (x := order0) rfl h1859) (ea_cons (e_sl (fun (o : m_Record) => o.result) (e_var (R := (r_Record K)) (x := lower0) rfl h1857) (scl_ok (T.mo 1 rfl)) (slot_ok (T.mo 4 rfl)) (fun _ => (List.mem_cons_of_mem _ (List.mem_cons_of_mem _ (List.mem_cons_self ..))))) (ea_cons (e_sl (fun (o : m_Record) => o.result) (e_var (R := (r_Record K)) (x := upper0) rfl h1858) (scl_ok (T.mo 1 rfl)) (slot_ok (T.mo 4 rfl)) (fun _ => (List.mem_cons_of_mem _ (List.mem_cons_of_mem _ (List.mem_cons_self ..))))) ea_nil)) (by decide +kernel))) (by first | (simp only [be1, bs1, ba1] at hx1862 ⊢; exact hx1862) | exact hx1862) (fun v9 H9 G9 w9 e9 r9 => k v9 H9 G9 w9.upE r9)
def m_clash (first0 : m_Record) (second0 : m_Record) (order0 : m_Order) : Option (Option Str) :=
  (some (!(decide (first0.name = second0.name))) >>= fun b1863 => bif b1863 then (some (none : (Option Str)) >>= fun a1867 => some a1867) else (m_shape_clash first0 second0 >>= fun b1871 => bif b1871 then (some (some ("shape" : Str)) >>= fun a1875 => some a1875) else ((orO (m_falls first0 second0 order0) (m_falls second0 first0 order0)) >>= fun b1879 => bif b1879 then (some (some ("values" : Str)) >>= fun a1883 => some a1883) else (some (none : (Option Str)) >>= fun a1887 => some a1887))))
theorem sc_clash : FnScope ["first", "second", "order"] ["first", "second", "order"] (defScope s_clash) := ⟨rfl, rfl, rfl, by decide +kernel, rfl, by decide +kernel, by decide +kernel⟩
theorem ok_clash (T : Tx K mg) : Fk P w K mg base CX0 4 "clash" ["first", "second", "order"] (PF (aC (r_Record K) (aC (r_Record K) (aC (r_Order K) aN))) (rO rS) (fun i => m_clash i.1 i.2.1 i.2.2.1)) := by
  obtain ⟨fd_shape_clash, G_shape_clash, b_shape_clash, k_shape_clash, g_shape_clash⟩ := ok_shape_clash (w := w) (base := base) T
  obtain ⟨fd_falls, G_falls, b_falls, k_falls, g_falls⟩ := ok_falls (w := w) (base := base) T
  obtain ⟨fd, F⟩ := T.def_ 5 rfl
  have nd := sc_clash.nd
  refine fk_mk T.toTx (x := "clash") (T.glo 12 rfl) F (fun _ _ _ _ _ _ us hl => match us, hl with | [_, _, _], _ => rfl) (F.ok sc_clash (fun vs H Q E h => ?_) (fun cdv A outer s H vs Q E hr h => ?_))
  · obtain ⟨G, ⟨first0, second0, order0, ⟨⟩⟩, r, e0, ⟨vfirst0, _, rfl, hfirst0, vsecond0, _, rfl, hsecond0, vorder0, _, rfl, horder0, rfl⟩, h, k⟩ := h
    rfl
  · obtain ⟨G, ⟨first0, second0, order0, ⟨⟩⟩, r, e0, ⟨vfirst0, _, rfl, hfirst0, vsecond0, _, rfl, hsecond0, vorder0, _, rfl, horder0, rfl⟩, h, k⟩ := h
    have w0 := Wo.start e0
    have h : m_clash first0 second0 order0 = some r := h
    unfold m_clash at h
    refine ⟨_, PSs.nox (pss_cons (ps_if (pt_cmpR op_ne (show L2.PE _ _ (SlX.tSl K _ _) from (SlX.pe_sl (pv 0) (by rfl))) (show L2.PE _ _ (SlX.tSl K _ _) from (SlX.pe_sl (pv 1) (by rfl))) (nomark _)) (pss_cons (ps_ret pe_non) pss_nil) pss_nil) (pss_cons (ps_if (pt_val (pe_call G_shape_clash (hr.mono (by decide)) rfl g_shape_clash k_shape_clash b_shape_clash .nil pass0 (pa_cons (pv 0) (pa_cons (pv 1) pa_nil)))) (pss_cons (ps_ret pe_str) pss_nil) pss_nil) (pss_cons (ps_if (PW.pt (pw_or (pt_val (pe_call G_falls (hr.mono (by decide)) rfl g_falls k_falls b_falls .nil pass0 (pa_cons (pv 0) (pa_cons (pv 1) (pa_cons (pv 2) pa_nil))))) (pw_or1 (pt_val (pe_call G_falls (hr.mono (by decide)) rfl g_falls k_falls b_falls .nil pass0 (pa_cons (pv 1) (pa_cons (pv 0) (pa_cons (pv 2) pa_nil)))))))) (pss_cons (ps_ret pe_str) pss_nil) pss_nil) (pss_cons (ps_ret pe_non) pss_nil)))), ?_⟩
    obtain ⟨b1863, hx1864, h⟩ := bindS h
    refine x_if w0 (et_T (e_op rr_neS (e_sl (fun (o : m_Record) => o.name) (e_var (R := (r_Record K)) (x := first0) rfl (Rep.mono _ w0.ex hfirst0)) (scl_ok (T.mo 1 rfl)) (slot_ok (T.mo 2 rfl)) (fun _ => (List.mem_cons_self ..))) (e_sl (fun (o : m_Record) => o.name) (e_var (R := (r_Record K)) (x := second0) rfl (Rep.mono _ w0.ex hsecond0)) (scl_ok (T.mo 1 rfl)) (slot_ok (T.mo 2 rfl)) (fun _ => (List.mem_cons_self ..))))) hx1864 ?_ ?_
    · intro hbb1863 H1865 w1866
      subst hbb1863
      have h := bifT h
      obtain ⟨a1867, hx1868, h⟩ := bindS h
      have h : a1867 = r := Option.some.inj h
      subst h
      exact x_ret w1866 (e_none (R := rS)) hx1868 (fun v9 H9 G9 w9 e9 r9 => k v9 H9 G9 w9.upE r9)
    · intro hbb1863 H1869 w1870
      subst hbb1863
      have h := bifF h
      refine x_next ?_
      obtain ⟨b1871, hx1872, h⟩ := bindS h
      refine x_if w1870 (et_B (e_call (ea_cons (e_var (R := (r_Record K)) (x := first0) rfl (Rep.mono _ w1870.ex hfirst0)) (ea_cons (e_var (R := (r_Record K)) (x := second0) rfl (Rep.mono _ w1870.ex hsecond0)) ea_nil)))) (by first | (simp only [be1, bs1, ba1] at hx1872 ⊢; exact hx1872) | exact hx1872) ?_ ?_
      · intro hbb1871 H1873 w1874
        subst hbb1871
        have h := bifT h
        obtain ⟨a1875, hx1876, h⟩ := bindS h
        have h : a1875 = r := Option.some.inj h
        subst h
        exact x_ret w1874 (e_some e_str) hx1876 (fun v9 H9 G9 w9 e9 r9 => k v9 H9 G9 w9.upE r9)
      · intro hbb1871 H1877 w1878
        subst hbb1871
        have h := bifF h
        refine x_next ?_
        obtain ⟨b1879, hx1880, h⟩ := bindS h
        refine x_if w1878 (et_or (et_B (e_call (ea_cons (e_var (R := (r_Record K)) (x := first0) rfl (Rep.mono _ w1878.ex hfirst0)) (ea_cons (e_var (R := (r_Record K)) (x := second0) rfl (Rep.mono _ w1878.ex hsecond0)) (ea_cons (e_var (R := (r_Order K)) (x := order0) rfl (Rep.mono _ w1878.ex horder0)) ea_nil))))) (et_B (e_call (ea_cons (e_var (R := (r_Record K)) (x := second0) rfl (Rep.mono _ w1878.ex hsecond0)) (ea_cons (e_var (R := (r_Record K)) (x := first0) rfl (Rep.mono _ w1878.ex hfirst0)) (ea_cons (e_var (R := (r_Order K)) (x := order0) rfl (Rep.mono _ w1878.ex horder0)) ea_nil)))))) (by first | (simp only [be1, bs1, ba1] at hx1880 ⊢; exact hx1880) | exact hx1880) ?_ ?_
        · intro hbb1879 H1881 w1882
          subst hbb1879
          have h := bifT h
          obtain ⟨a1883, hx1884, h⟩ := bindS h
          have h : a1883 = r := Option.some.inj h
          subst h
          exact x_ret w1882 (e_some e_str) hx1884 (fun v9 H9 G9 w9 e9 r9 => k v9 H9 G9 w9.upE r9)
        · intro hbb1879 H1885 w1886
          subst hbb1879
          have h := bifF h
          refine x_next ?_
          obtain ⟨a1887, hx1888, h⟩ := bindS h
          have h : a1887 = r := Option.some.inj h
          subst h
          exact x_ret w1886 (e_none (R := rS)) hx1888 (fun v9 H9 G9 w9 e9 r9 => k v9 H9 G9 w9.upE r9)
def m__law_nodes_b2 (size0 : Int) (x1960 : Int) (x1922 : Int) (x1990 : Int) (s1979 : ((List Int) × (List Int))) : Option ((List Int) × (List Int)) :=
  (some size0 >>= fun x1993 => (m__law_draw s1979.1 x1993 >>= fun x1998 => ((some (decide ((x1960 + (1 : Int)) < x1922)) >>= fun b2073 => (bif b2073 then (some (2 : Int) >>= fun x2077 => (m__law_draw x1998.2 x2077 >>= fun x2082 => (some (1 : Int) >>= fun x2092 => (some (x2082.1 == x2092) >>= fun x2096 => (bif x2096 then (some ((size0 + x1960) + (1 : Int)) >>= fun x2105 => (some ((x1922 - x1960) - (1 : Int)) >>= fun x2110 => (m__law_draw x2082.2 x2110 >>= fun x2115 => (some (x2105 + x2115.1) >>= fun x2124 => some (x2124, x2115.2))))) else some (x1998.1, x2082.2)))))) else some (x1998.1, x1998.2))) >>= fun s2069 => (some s2069.1 >>= fun a2138 => appM s1979.2 a2138 >>= fun row_2139 => some ((s2069.2, row_2139))))))
def m__law_nodes_b1 (size0 : Int) (x1922 : Int) (names_here0 : (List Str)) (x1960 : Int) (s1947 : ((List (Str × (List Int))) × (List Int))) : Option ((List (Str × (List Int))) × (List Int)) :=
  (some ([]) >>= fun row_1963 => (some size0 >>= fun n1972 => rngM 0 n1972 >>= fun xs1974 => forS (m__law_nodes_b2 size0 x1960 x1922) xs1974 (s1947.2, row_1963) >>= fun s1979 => (some names_here0 >>= fun x2159 => (some (names_here0.length : Int) >>= fun x2170 => (m__law_draw s1979.1 x2170 >>= fun x2175 => (atI x2159 x2175.1 >>= fun x2186 => (some s1979.2 >>= fun x2198 => (appM s1947.1 (x2186, x2198) >>= fun nodes_here_2221 => some ((nodes_here_2221, x2175.2))))))))))
def m__law_nodes (pot_here0 : (List Int)) (names_here0 : (List Str)) (size0 : Int) : Option ((List (Str × (List Int))) × (List Int)) :=
  (some (4 : Int) >>= fun x1889 => (m__law_draw pot_here0 x1889 >>= fun x1894 => (some (1 : Int) >>= fun x1904 => (some (x1894.1 + x1904) >>= fun x1908 => (some (4 : Int) >>= fun x1918 => (modM x1908 x1918 >>= fun x1922 => (some ([]) >>= fun nodes_here_1931 => (some x1922 >>= fun n1940 => rngM 0 n1940 >>= fun xs1942 => forS (m__law_nodes_b1 size0 x1922 names_here0) xs1942 (nodes_here_1931, x1894.2) >>= fun s1947 => some (s1947.1, s1947.2)))))))))
theorem sc__law_nodes : FnScope ["_law_pot_here", "_law_names_here", "_law_size", "_law_many", "_law_nodes_here", "_law_k", "_law_row", "_law_answer", "_law_entry"] ["_law_pot_here", "_law_names_here", "_law_size"] (defScope s__law_nodes) := ⟨rfl, rfl, rfl, by decide +kernel, rfl, by decide +kernel, by decide +kernel⟩
theorem ok__law_nodes (T : Tx K mg) : Fk P w K mg base CX0 2 "_law_nodes" ["_law_pot_here", "_law_names_here", "_law_size"] (P1L (aC (rL rS) (aC rI aN)) rI (rP rS (rL rI)) (fun ys i => m__law_nodes ys i.1 i.2.1)) := by
  obtain ⟨fd__law_draw, G__law_draw, b__law_draw, k__law_draw, g__law_draw⟩ := ok__law_draw (w := w) (base := base) T
  obtain ⟨fd, F⟩ := T.def_ 23 rfl
  have nd := sc__law_nodes.nd
  refine fk_mk T.toTx (x := "_law_nodes") (T.glo 28 rfl) F (fun _ _ _ _ _ _ us hl => match us, hl with | [_, _, _], _ => rfl) (F.ok sc__law_nodes (fun vs H Q E h => ?_) (fun cdv A outer s H vs Q E hr h => ?_))
  · obtain ⟨G, ⟨l, ⟨names_here0, size0, ⟨⟩⟩⟩, pot_here0, r, k', ⟨_, _, rfl, rfl, ⟨vnames_here0, _, rfl, hnames_here0, vsize0, _, rfl, hsize0, rfl⟩⟩, wd, h, k⟩ := h
    rfl
  · obtain ⟨G, ⟨l, ⟨names_here0, size0, ⟨⟩⟩⟩, pot_here0, r, k', ⟨_, _, rfl, rfl, ⟨vnames_here0, _, rfl, hnames_here0, vsize0, _, rfl, hsize0, rfl⟩⟩, wd, h, k⟩ := h
    cases hsize0
    have e0 : Evl.Ex G H := wd.ex
    have w0 : Wo G H [l] G H _ := Wo.startC wd
    have h : m__law_nodes pot_here0 names_here0 size0 = some (r, k') := h
    unfold m__law_nodes at h
    refine ⟨_, PSs.nox (pss_cons (ps_set (i := 3) nd rfl (Or.inl rfl) (pe_op op_mod (pe_callTy call_int1 (by rfl) (fr_int T) (by decide +kernel) (pa_cons (pe_op op_add (pe_call G__law_draw (hr.mono (by decide)) rfl g__law_draw k__law_draw b__law_draw .nil pass0 (pa_cons (pv 0) (pa_cons pe_int pa_nil))) pe_int) pa_nil)) pe_int)) (pss_cons (ps_set (i := 4) nd rfl (Or.inl rfl) (pe_lst pa_nil)) (pss_cons (ps_for PassesOwn.never rfl (pi_range1 (by rfl) (fr_range T) (pa_cons (pv 3) pa_nil)) (pg_name (i := 5) nd rfl (Or.inl rfl)) (pss_cons (ps_set (i := 6) nd rfl (Or.inl rfl) (pe_lst pa_nil)) (pss_cons (ps_for PassesOwn.never rfl (pi_range1 (by rfl) (fr_range T) (pa_cons (pv 2) pa_nil)) (pg_name (i := 7) nd rfl (Or.inl rfl)) (pss_cons (ps_set (i := 8) nd rfl (Or.inl rfl) (pe_call G__law_draw (hr.mono (by decide)) rfl g__law_draw k__law_draw b__law_draw .nil pass0 (pa_cons (pv 0) (pa_cons (pv 2) pa_nil)))) (Evl.pss_cut (ps_if (PW.pt (pw_and (pt_cmpR op_lt (pe_op op_add (pv 5) pe_int) (pv 3) (nomark _)) (pw_and1 (pt_cmpR op_eq (pe_call G__law_draw (hr.mono (by decide)) rfl g__law_draw k__law_draw b__law_draw .nil pass0 (pa_cons (pv 0) (pa_cons pe_int pa_nil))) pe_int (nomark _))))) (pss_cons (ps_set (i := 8) nd rfl (Or.inl rfl) (pe_op op_add (pe_op op_add (pe_op op_add (pv 2) (pv 5)) pe_int) (pe_call G__law_draw (hr.mono (by decide)) rfl g__law_draw k__law_draw b__law_draw .nil pass0 (pa_cons (pv 0) (pa_cons (pe_op op_sub (pe_op op_sub (pv 3) (pv 5)) pe_int) pa_nil))))) pss_nil) pss_nil) (pss_cons (ps_expr (pe_bm PySem.F.plainAttrs_list PySem.F.slot_list_append PySem.F.type_list_append mt_append (pv 6) (pa_cons (pv 8) pa_nil))) pss_nil)))) (pss_cons (ps_expr (pe_bm PySem.F.plainAttrs_list PySem.F.slot_list_append PySem.F.type_list_append mt_append (pv 4) (pa_cons (pe_tup (pa_cons (pe_ix (r := rIxL K) ix_list (pv 1) (pe_call G__law_draw (hr.mono (by decide)) rfl g__law_draw k__law_draw b__law_draw .nil pass0 (pa_cons (pv 0) (pa_cons (pe_callB (r := rLn K) call_len_seq (by rfl) (fr_len T) (by decide +kernel) (pa_cons (pv 1) pa_nil)) pa_nil))) (fun _ _ => rfl)) (pa_cons (pv 6) pa_nil))) pa_nil))) pss_nil)))) (pss_cons (ps_ret (pv 4)) pss_nil)))), ?_⟩
    refine x_setO ?_
    refine o_op ?_
    refine o_cb ?_
    refine o_cons ?_
    refine o_op ?_
    refine o_call ?_
    refine o_cons ?_
    refine o_var rfl ?_
    refine o_cons ?_
    obtain ⟨x1889, hx1890, h⟩ := bindS h
    refine c_i w0 e_int hx1890 ?_
    intro H1891 w1892
    refine o_nil ?_
    obtain ⟨x1894, hx1895, h⟩ := bindS h
    refine c_p1 (i := 0) (j := (x1889, ())) w1892 rfl ⟨_, _, rfl, rfl, rfl⟩ hx1895 ?_
    intro u1896 H1897 G1898 w1899 e1900 r1901
    have h1902 := Rep.mono _ e1900 hnames_here0
    cases r1901
    have w1899 : Wo G H [l] G1898 H1897 [(l, cL rI x1894.2)] := w1899
    obtain ⟨x1904, hx1905, h⟩ := bindS h
    refine c_i w1899 e_int hx1905 ?_
    intro H1906 w1907
    obtain ⟨x1908, hx1909, h⟩ := bindS h
    refine c_rr rr_add w1907 rfl rfl hx1909 ?_
    intro u1910 H1911 G1912 w1913 e1914 r1915
    have h1916 := Rep.mono _ e1914 h1902
    cases r1915
    refine o_nil ?_
    refine Or.inl ⟨_, rfl, ?_⟩
    obtain ⟨x1918, hx1919, h⟩ := bindS h
    refine c_i w1913 e_int hx1919 ?_
    intro H1920 w1921
    obtain ⟨x1922, hx1923, h⟩ := bindS h
    refine c_rr rr_mod w1921 rfl rfl hx1923 ?_
    intro u1924 H1925 G1926 w1927 e1928 r1929
    have h1930 := Rep.mono _ e1928 h1916
    cases r1929
    obtain ⟨nodes_here_1931, hx1932, h⟩ := bindS h
    refine x_setL w1927 (el_disp (R := (rP rS (rL rI))) eal_nil) hx1932 ?_
    intro p1935 H1933 G1936 n1937 w1934 e1938
    have h1939 := Rep.mono _ e1938 h1930
    obtain ⟨n1940, hx1941, h⟩ := bindS h
    obtain ⟨xs1942, hx1943, h⟩ := bindS h
    obtain ⟨t1945, hx1946, h⟩ := bindS h
    refine x_forR w1934 (ea_cons (Sim.E.is (e_var (R := rI) (x := x1922) rfl rfl) hx1941) ea_nil) rfl hx1943 (fun i G' H' σ' => ∃ s1947 : ((List (Str × (List Int))) × (List Int)), ∃ u1948 : Option V, ∃ u1949 : Option V, ∃ u1950 : Option V, ∃ u1951 : Option V, Wo G H [l] G' H' [(p1935, cL (rP rS (rL rI)) s1947.1), (l, cL rI s1947.2)] ∧ Evl.Ex G1936 G' ∧ σ' = [some (V.ref l), some vnames_here0, some (V.int size0), some (V.int x1922), some (V.ref p1935), u1950, u1951, u1948, u1949] ∧ forS (m__law_nodes_b1 size0 x1922 names_here0) (xs1942.drop i) s1947 = some t1945) ?_ ?_ ?_
    · intro G' H' w' e'
      exact ⟨(nodes_here_1931, x1894.2), (none), (none), (none), (none), w', e', rfl, hx1946⟩
    · rintro i1959 x1960 σ' G1955 H1958 hx1961 ⟨s1947, u1948, u1949, u1950, u1951, w1956, e1957, rfl, hm1953⟩
      obtain ⟨q1954, hb1952, hm1953⟩ := forS_at hx1961 hm1953
      have h1962 := Rep.mono _ e1957 h1939
      refine g_name ?_
      unfold m__law_nodes_b1 at hb1952
      obtain ⟨row_1963, hx1964, hb1952⟩ := bindS hb1952
      refine x_setL w1956 (el_disp (R := rI) eal_nil) hx1964 ?_
      intro p1967 H1965 G1968 n1969 w1966 e1970
      have h1971 := Rep.mono _ e1970 h1962
      obtain ⟨n1972, hx1973, hb1952⟩ := bindS hb1952
      obtain ⟨xs1974, hx1975, hb1952⟩ := bindS hb1952
      obtain ⟨t1977, hx1978, hb1952⟩ := bindS hb1952
      refine x_forR w1966 (ea_cons (Sim.E.is (e_var (R := rI) (x := size0) rfl rfl) hx1973) ea_nil) rfl hx1975 (fun i G' H' σ' => ∃ s1979 : ((List Int) × (List Int)), ∃ u1980 : Option V, ∃ u1981 : Option V, Wo G H [l] G' H' [(p1967, cL rI s1979.2), (p1935, cL (rP rS (rL rI)) s1947.1), (l, cL rI s1979.1)] ∧ Evl.Ex G1968 G' ∧ σ' = [some (V.ref l), some vnames_here0, some (V.int size0), some (V.int x1922), some (V.ref p1935), some (V.int x1960), some (V.ref p1967), u1980, u1981] ∧ forS (m__law_nodes_b2 size0 x1960 x1922) (xs1974.drop i) s1979 = some t1977) ?_ ?_ ?_
      · intro G' H' w' e'
        exact ⟨(s1947.2, row_1963), (u1948), (u1949), w', e', rfl, hx1978⟩
      · rintro i1989 x1990 σ' G1985 H1988 hx1991 ⟨s1979, u1980, u1981, w1986, e1987, rfl, hm1983⟩
        obtain ⟨q1984, hb1982, hm1983⟩ := forS_at hx1991 hm1983
        have h1992 := Rep.mono _ e1987 h1971
        refine g_name ?_
        unfold m__law_nodes_b2 at hb1982
        refine x_setO ?_
        refine o_call ?_
        refine o_cons ?_
        refine o_var rfl ?_
        refine o_cons ?_
        obtain ⟨x1993, hx1994, hb1982⟩ := bindS hb1982
        refine c_i w1986 (e_var (R := rI) (x := size0) rfl rfl) hx1994 ?_
        intro H1995 w1996
        refine o_nil ?_
        obtain ⟨x1998, hx1999, hb1982⟩ := bindS hb1982
        refine c_p1 (i := 2) (j := (x1993, ())) w1996 rfl ⟨_, _, rfl, rfl, rfl⟩ hx1999 ?_
        intro u2000 H2001 G2002 w2003 e2004 r2005
        have h2006 := Rep.mono _ e2004 h1992
        cases r2005
        have w2003 : Wo G H [l] G2002 H2001 [(p1967, cL rI s1979.2), (p1935, cL (rP rS (rL rI)) s1947.1), (l, cL rI x1998.2)] := w2003
        obtain ⟨s2069, hx2070, hb1982⟩ := bindS hb1982
        refine o_cut (fun σ' H' => ∃ G' : Hp, Wo G H [l] G' H' [(p1967, cL rI s1979.2), (p1935, cL (rP rS (rL rI)) s1947.1), (l, cL rI s2069.2)] ∧ Evl.Ex G2002 G' ∧ σ' = [some (V.ref l), some vnames_here0, some (V.int size0), some (V.int x1922), some (V.ref p1935), some (V.int x1960), some (V.ref p1967), some (V.int x1990), some (V.int s2069.1)]) ?_ ?_
        · refine o_if ?_
          refine o_and ?_
          obtain ⟨b2073, hx2074, hx2070⟩ := bindS hx2070
          refine c_t w2003 (et_T (e_op rr_lt (e_op rr_add (e_var (R := rI) (x := x1960) rfl rfl) e_int) (e_var (R := rI) (x := x1922) rfl rfl))) hx2074 ?_
          intro H2075 w2076
          refine ite_b ?_ ?_
          · intro hb2134
            rw [hb2134] at hx2070
            have hx2070 := bifT hx2070
            refine o_T ?_
            refine o_op ?_
            refine o_call ?_
            refine o_cons ?_
            refine o_var rfl ?_
            refine o_cons ?_
            obtain ⟨x2077, hx2078, hx2070⟩ := bindS hx2070
            refine c_i w2076 e_int hx2078 ?_
            intro H2079 w2080
            refine o_nil ?_
            obtain ⟨x2082, hx2083, hx2070⟩ := bindS hx2070
            refine c_p1 (i := 2) (j := (x2077, ())) w2080 rfl ⟨_, _, rfl, rfl, rfl⟩ hx2083 ?_
            intro u2084 H2085 G2086 w2087 e2088 r2089
            have h2090 := Rep.mono _ e2088 h2006
            cases r2089
            have w2087 : Wo G H [l] G2086 H2085 [(p1967, cL rI s1979.2), (p1935, cL (rP rS (rL rI)) s1947.1), (l, cL rI x2082.2)] := w2087
            obtain ⟨x2092, hx2093, hx2070⟩ := bindS hx2070
            refine c_i w2087 e_int hx2093 ?_
            intro H2094 w2095
            obtain ⟨x2096, hx2097, hx2070⟩ := bindS hx2070
            refine c_rr rr_eqI w2095 rfl rfl hx2097 ?_
            intro u2098 H2099 G2100 w2101 e2102 r2103
            have h2104 := Rep.mono _ e2102 h2090
            cases r2103
            refine ⟨_, rfl, ite_b ?_ ?_⟩
            · intro hb2133
              rw [hb2133] at hx2070
              have hx2070 := bifT hx2070
              refine x_setO ?_
              refine o_op ?_
              obtain ⟨x2105, hx2106, hx2070⟩ := bindS hx2070
              refine c_i w2101 (e_op rr_add (e_op rr_add (e_var (R := rI) (x := size0) rfl rfl) (e_var (R := rI) (x := x1960) rfl rfl)) e_int) hx2106 ?_
              intro H2107 w2108
              refine o_call ?_
              refine o_cons ?_
              refine o_var rfl ?_
              refine o_cons ?_
              obtain ⟨x2110, hx2111, hx2070⟩ := bindS hx2070
              refine c_i w2108 (e_op rr_sub (e_op rr_sub (e_var (R := rI) (x := x1922) rfl rfl) (e_var (R := rI) (x := x1960) rfl rfl)) e_int) hx2111 ?_
              intro H2112 w2113
              refine o_nil ?_
              obtain ⟨x2115, hx2116, hx2070⟩ := bindS hx2070
              refine c_p1 (i := 2) (j := (x2110, ())) w2113 rfl ⟨_, _, rfl, rfl, rfl⟩ hx2116 ?_
              intro u2117 H2118 G2119 w2120 e2121 r2122
              have h2123 := Rep.mono _ e2121 h2104
              cases r2122
              have w2120 : Wo G H [l] G2119 H2118 [(p1967, cL rI s1979.2), (p1935, cL (rP rS (rL rI)) s1947.1), (l, cL rI x2115.2)] := w2120
              obtain ⟨x2124, hx2125, hx2070⟩ := bindS hx2070
              refine c_rr rr_add w2120 rfl rfl hx2125 ?_
              intro u2126 H2127 G2128 w2129 e2130 r2131
              have h2132 := Rep.mono _ e2130 h2123
              cases r2131
              refine x_next ?_
              have hx2070 : (x2124, x2115.2) = s2069 := Option.some.inj hx2070
              subst hx2070
              exact ⟨G2128, w2129, (((e2088.trans e2102).trans e2121).trans e2130), rfl⟩
            · intro hb2133
              rw [hb2133] at hx2070
              have hx2070 := bifF hx2070
              refine x_next ?_
              have hx2070 : (x1998.1, x2082.2) = s2069 := Option.some.inj hx2070
              subst hx2070
              exact ⟨G2100, w2101, (e2088.trans e2102), rfl⟩
          · intro hb2134
            rw [hb2134] at hx2070
            have hx2070 := bifF hx2070
            refine o_ff ?_
            refine x_next ?_
            have hx2070 : (x1998.1, x1998.2) = s2069 := Option.some.inj hx2070
            subst hx2070
            exact ⟨G2002, w2076, (Evl.Ex.refl _), rfl⟩
        · rintro σ' H2136 ⟨G2135, w2072, e2071, rfl⟩
          have h2137 := Rep.mono _ e2071 h2006
          obtain ⟨a2138, hx2140, hb1982⟩ := bindS hb1982
          obtain ⟨row_2139, hx2141, hb1982⟩ := bindS hb1982
          obtain ⟨hs2142, rfl⟩ := appM_ok hx2141
          refine x_app (j := 0) w2072 rfl hs2142 rfl (e_var (R := rI) (x := s2069.1) rfl rfl) hx2140 ?_
          intro H2143 G2144 w2145 e2146
          have h2147 := Rep.mono _ e2146 h2137
          have w2145 : Wo G H [l] G2144 H2143 [(p1967, cL rI (s1979.2 ++ [a2138])), (p1935, cL (rP rS (rL rI)) s1947.1), (l, cL rI s2069.2)] := w2145
          refine x_next ?_
          have hb1982 : (s2069.2, (s1979.2 ++ [a2138])) = q1984 := Option.some.inj hb1982
          subst hb1982
          exact ⟨G2144, (s2069.2, (s1979.2 ++ [a2138])), (some (V.int x1990)), (some (V.int s2069.1)), w2145, (((e1987.trans e2004).trans e2071).trans e2146), rfl, hm1983⟩
      · rintro σ' G2148 H2151 ⟨s1979, u1980, u1981, w2149, e2150, rfl, hm1983⟩
        have hm1983 := forS_end hm1983
        subst hm1983
        have h2153 := Rep.mono _ e2150 h1971
        obtain ⟨G2154, w2155, e2156, h2157⟩ := w2149.freezeAt (i := 0) rfl n1969
        have h2158 := Rep.mono _ e2156 h2153
        have w2155 : Wo G H [l] G2154 H2151 [(p1935, cL (rP rS (rL rI)) s1947.1), (l, cL rI s1979.1)] := w2155
        refine x_drop ?_
        refine o_bm (j := 0) w2155 rfl rfl ?_
        refine o_cons ?_
        refine o_tup ?_
        refine o_cons ?_
        refine o_op ?_
        obtain ⟨x2159, hx2160, hb1952⟩ := bindS hb1952
        refine c_e w2155 (e_var (R := (rL rS)) (x := names_here0) rfl h2158) hx2160 ?_
        intro v2163 H2161 G2164 w2162 e2165 h2166
        have h2167 := Rep.mono _ e2165 h2158
        have h2168 := Rep.mono _ e2165 h2157
        refine o_call ?_
        refine o_cons ?_
        refine o_var rfl ?_
        refine o_cons ?_
        obtain ⟨x2170, hx2171, hb1952⟩ := bindS hb1952
        refine c_i w2162 (e_cb rc_lenL (ea_cons (e_var (R := (rL rS)) (x := names_here0) rfl h2167) ea_nil)) hx2171 ?_
        intro H2172 w2173
        refine o_nil ?_
        obtain ⟨x2175, hx2176, hb1952⟩ := bindS hb1952
        refine c_p1 (i := 1) (j := (x2170, ())) w2173 rfl ⟨_, _, rfl, rfl, rfl⟩ hx2176 ?_
        intro u2177 H2178 G2179 w2180 e2181 r2182
        have h2183 := Rep.mono _ e2181 h2167
        have h2184 := Rep.mono _ e2181 h2168
        have h2185 := Rep.mono _ e2181 h2166
        cases r2182
        have w2180 : Wo G H [l] G2179 H2178 [(p1935, cL (rP rS (rL rI)) s1947.1), (l, cL rI x2175.2)] := w2180
        obtain ⟨x2186, hx2187, hb1952⟩ := bindS hb1952
        refine c_rr rr_ixL w2180 h2185 rfl hx2187 ?_
        intro u2188 H2189 G2190 w2191 e2192 r2193
        have h2194 := Rep.mono _ e2192 h2183
        have h2195 := Rep.mono _ e2192 h2184
        have h2196 := Rep.mono _ e2192 h2185
        cases r2193
        refine o_cons ?_
        obtain ⟨x2198, hx2199, hb1952⟩ := bindS hb1952
        refine c_e w2191 (e_var (R := (rL rI)) (x := s1979.2) rfl h2195) hx2199 ?_
        intro v2202 H2200 G2203 w2201 e2204 h2205
        have h2206 := Rep.mono _ e2204 h2194
        have h2207 := Rep.mono _ e2204 h2195
        have h2208 := Rep.mono _ e2204 h2196
        refine o_nil ?_
        refine c_pairO (R := rS) (S := (rL rI)) (x := x2186) (y := x2198) w2201 rfl h2205 ?_
        intro v2210 H2215 G2211 w2212 e2213 h2214
        have h2216 := Rep.mono _ e2213 h2206
        have h2217 := Rep.mono _ e2213 h2207
        have h2218 := Rep.mono _ e2213 h2208
        have h2219 := Rep.mono _ e2213 h2205
        refine o_nil ?_
        obtain ⟨nodes_here_2221, hx2222, hb1952⟩ := bindS hb1952
        obtain ⟨hs2225, q2226⟩ := appM_ok hx2222
        subst q2226
        refine c_app (j := 0) w2212 rfl hs2225 h2214 ?_
        intro H2223 w2224
        have w2224 : Wo G H [l] G2211 H2223 [(p1935, cL (rP rS (rL rI)) (s1947.1 ++ [(x2186, x2198)])), (l, cL rI x2175.2)] := w2224
        refine x_next ?_
        have hb1952 : ((s1947.1 ++ [(x2186, x2198)]), x2175.2) = q1954 := Option.some.inj hb1952
        subst hb1952
        exact ⟨G2211, ((s1947.1 ++ [(x2186, x2198)]), x2175.2), (u1980), (u1981), (some (V.int x1960)), (some (V.ref p1967)), w2224, ((((((((e1957.trans e1970).trans e2150).trans e2156).trans e2165).trans e2181).trans e2192).trans e2204).trans e2213), rfl, hm1953⟩
    · rintro σ' G2227 H2230 ⟨s1947, u1948, u1949, u1950, u1951, w2228, e2229, rfl, hm1953⟩
      have hm1953 := forS_end hm1953
      subst hm1953
      have h2232 := Rep.mono _ e2229 h1939
      obtain ⟨h8, h9⟩ : s1947.1 = r ∧ s1947.2 = k' := Prod.mk.inj (Option.some.inj h)
      subst h8
      subst h9
      refine x_retO (o_var rfl ?_)
      exact k _ _ _ n1937 w2228.f (w2228.sub2 (i := 0) (j := 1) rfl rfl (by decide))
def m__law_run_b1 {κ : Type} (nodes_here0 : (List (Str × (List Int)))) (ask0 : (κ → Str → Option (Int × κ))) (size0 : Int) (x2255 : Int) (s2244 : (κ × Int)) : Option (Stp (κ × Int) (Int × κ)) :=
  ((atI nodes_here0 s2244.2 >>= fun t2258 => some t2258.2) >>= fun x2259 => ((atI nodes_here0 s2244.2 >>= fun t2269 => some t2269.1) >>= fun x2270 => (ask0 s2244.1 x2270 >>= fun x2275 => (atI x2259 x2275.1 >>= fun x2283 => (some (decide (x2283 < size0)) >>= fun b2293 => bif b2293 then (some x2283 >>= fun a2297 => some (Stp.rt (a2297, x2275.2))) else (some (x2283 - size0) >>= fun at_2301 => some (Stp.nx (x2275.2, at_2301))))))))
def m__law_run {κ : Type} (ask0 : (κ → Str → Option (Int × κ))) (nodes_here0 : (List (Str × (List Int)))) (size0 : Int) (s0 : κ) : Option (Int × κ) :=
  (some (0 : Int) >>= fun at_2233 => (some (nodes_here0.length : Int) >>= fun n2237 => rngM 0 n2237 >>= fun xs2239 => forL (m__law_run_b1 nodes_here0 ask0 size0) xs2239 (s0, at_2233) >>= Sum.elim (fun s2244 => (some (0 : Int) >>= fun a2311 => some (a2311, s2244.1))) (fun r => some r)))
theorem sc__law_run : FnScope ["_law_nodes_here", "_law_size", "_law_ask", "_law_at", "_law_k", "_law_entry"] ["_law_nodes_here", "_law_size", "_law_ask"] (defScope s__law_run) := ⟨rfl, rfl, rfl, by decide +kernel, rfl, by decide +kernel, by decide +kernel⟩
theorem ok__law_run {n : Nat} (T : Tx K mg) : Fk P w K mg base CX0 (n + 1) "_law_run" ["_law_nodes_here", "_law_size", "_law_ask"] (PKp P w K mg base n (aC (rL (rP rS (rL rI))) (aC rI aN)) rI (fun ask i s => m__law_run ask i.1 i.2.1 s)) := by
  obtain ⟨fd, F⟩ := T.def_ 24 rfl
  have nd := sc__law_run.nd
  refine fk_mk T.toTx (x := "_law_run") (T.glo 29 rfl) F (fun _ _ _ _ _ _ us hl => match us, hl with | [_, _, _], _ => rfl) (F.ok sc__law_run (fun vs H Q E h => ?_) (fun cdv A outer s H vs Q E hr h => ?_))
  · obtain ⟨κ, ci, ask0, G, ws0, fk, ⟨nodes_here0, size0, ⟨⟩⟩, s0, r, k', rfl, ⟨vnodes_here0, _, rfl, hnodes_here0, vsize0, _, rfl, hsize0, rfl⟩, A0, wd, h, k⟩ := h
    rfl
  · obtain ⟨κ, ci, ask0, G, ws0, fk, ⟨nodes_here0, size0, ⟨⟩⟩, s0, r, k', rfl, ⟨vnodes_here0, _, rfl, hnodes_here0, vsize0, _, rfl, hsize0, rfl⟩, A0, wd, h, k⟩ := h
    cases hsize0
    have w0 : Wo G H (List.map (fun c => c.1) (ci s0)) G H _ := Wo.startC wd
    have h : m__law_run ask0 nodes_here0 size0 s0 = some (r, k') := h
    unfold m__law_run at h
    refine ⟨_, PSs.nox (pss_cons (ps_set (i := 3) nd rfl (Or.inl rfl) pe_int) (pss_cons (ps_for PassesOwn.never rfl (pi_range1 (by rfl) (fr_range T) (pa_cons (pe_callB (r := rLn K) call_len_seq (by rfl) (fr_len T) (by decide +kernel) (pa_cons (pv 0) pa_nil)) pa_nil)) (pg_name (i := 4) nd rfl (Or.inl rfl)) (pss_cons (ps_set (i := 5) nd rfl (Or.inl rfl) (pe_ix (r := rIxL K) ix_list (pe_ix (r := rIxT K) ix_tup (pe_ix (r := rIxL K) ix_list (pv 0) (pv 3) (fun _ _ => rfl)) pe_int (fun _ _ => rfl)) (LamF.pe_callV (CX := CX0) (E := fun _ => E0) (k := n) (i := 2) rfl (Or.inl rfl) (hr.mono (by omega)) (fun _ => passAt0) (pa_cons (pe_ix (r := rIxT K) ix_tup (pe_ix (r := rIxL K) ix_list (pv 0) (pv 3) (fun _ _ => rfl)) pe_int (fun _ _ => rfl)) pa_nil)) (fun _ _ => rfl))) (pss_cons (ps_if (pt_cmpR op_lt (pv 5) (pv 1) (nomark _)) (pss_cons (ps_ret (pv 5)) pss_nil) pss_nil) (pss_cons (ps_set (i := 3) nd rfl (Or.inl rfl) (pe_op op_sub (pv 5) (pv 1))) pss_nil)))) (pss_cons (ps_ret pe_int) pss_nil))), ?_⟩
    obtain ⟨at_2233, hx2234, h⟩ := bindS h
    refine x_setI w0 e_int hx2234 ?_
    intro H2235 w2236
    obtain ⟨n2237, hx2238, h⟩ := bindS h
    obtain ⟨xs2239, hx2240, h⟩ := bindS h
    obtain ⟨t2242, hx2243, h⟩ := bindS h
    refine x_forR w2236 (ea_cons (Sim.E.is (e_cb rc_lenL (ea_cons (e_var (R := (rL (rP rS (rL rI)))) (x := nodes_here0) rfl hnodes_here0) ea_nil)) hx2238) ea_nil) rfl hx2240 (fun i G' H' σ' => ∃ s2244 : (κ × Int), ∃ u2245 : Option V, ∃ u2246 : Option V, Wo G H (List.map (fun c => c.1) (ci s0)) G' H' ((ci s2244.1)) ∧ Evl.Ex G G' ∧ σ' = [some vnodes_here0, some (V.int size0), some (V.ref fk), some (V.int s2244.2), u2246, u2245] ∧ forL (m__law_run_b1 nodes_here0 ask0 size0) (xs2239.drop i) s2244 = some t2242) ?_ ?_ ?_
    · intro G' H' w' e'
      exact ⟨(s0, at_2233), (none), (none), w', e', rfl, hx2243⟩
    · rintro i2254 x2255 σ' G2250 H2253 hx2256 ⟨s2244, u2245, u2246, w2251, e2252, rfl, hm2248⟩
      obtain ⟨q2249, hb2247, hm2248⟩ := forL_at hx2256 hm2248
      have h2257 := Rep.mono _ e2252 hnodes_here0
      refine g_name ?_
      unfold m__law_run_b1 at hb2247
      refine x_setO ?_
      refine o_op ?_
      obtain ⟨x2259, hx2260, hb2247⟩ := bindS hb2247
      refine c_e w2251 (e_snd (e_op rr_ixL (e_var (R := (rL (rP rS (rL rI)))) (x := nodes_here0) rfl h2257) (e_var (R := rI) (x := s2244.2) rfl rfl))) (by first | (simp only [be1, bs1, ba1] at hx2260 ⊢; exact hx2260) | exact hx2260) ?_
      intro v2263 H2261 G2264 w2262 e2265 h2266
      have h2267 := Rep.mono _ e2265 h2257
      refine o_askN w2262 rfl A0.cb ?_
      refine o_cons ?_
      obtain ⟨x2270, hx2271, hb2247⟩ := bindS hb2247
      refine c_s w2262 (e_fst (e_op rr_ixL (e_var (R := (rL (rP rS (rL rI)))) (x := nodes_here0) rfl h2267) (e_var (R := rI) (x := s2244.2) rfl rfl))) (by first | (simp only [be1, bs1, ba1] at hx2271 ⊢; exact hx2271) | exact hx2271) ?_
      intro H2272 w2273
      refine o_nil ?_
      obtain ⟨x2275, hx2276, hb2247⟩ := bindS hb2247
      refine c_askN (ci := ci) (s := s2244.1) w2262 0 w2273 rfl A0 hx2276 ?_
      intro H2277 G2279 w2278 e2280
      have h2281 := Rep.mono _ e2280 h2267
      have h2282 := Rep.mono _ e2280 h2266
      have w2278 : Wo G H (List.map (fun c => c.1) (ci s0)) G2279 H2277 ((ci x2275.2)) := w2278
      obtain ⟨x2283, hx2284, hb2247⟩ := bindS hb2247
      refine c_rr rr_ixL w2278 h2282 rfl hx2284 ?_
      intro u2285 H2286 G2287 w2288 e2289 r2290
      have h2291 := Rep.mono _ e2289 h2281
      have h2292 := Rep.mono _ e2289 h2282
      cases r2290
      obtain ⟨b2293, hx2294, hb2247⟩ := bindS hb2247
      refine x_if w2288 (et_T (e_op rr_lt (e_var (R := rI) (x := x2283) rfl rfl) (e_var (R := rI) (x := size0) rfl rfl))) hx2294 ?_ ?_
      · intro hbb2293 H2295 w2296
        subst hbb2293
        have hb2247 := bifT hb2247
        obtain ⟨a2297, hx2298, hb2247⟩ := bindS hb2247
        have hb2247 : some (Stp.rt (a2297, x2275.2)) = some q2249 := hb2247
        cases hb2247
        have hm2248 : some (Sum.inr (a2297, x2275.2)) = some t2242 := hm2248
        cases hm2248
        obtain ⟨h8, h9⟩ : a2297 = r ∧ x2275.2 = k' := Prod.mk.inj (Option.some.inj h)
        subst h8
        subst h9
        exact x_ret w2296 (e_var (R := rI) (x := x2283) rfl rfl) hx2298 (fun v9 H9 G9 w9 e9 r9 => k v9 H9 G9 w9.f (w9.w.dropN 0) r9)
      · intro hbb2293 H2299 w2300
        subst hbb2293
        have hb2247 := bifF hb2247
        refine x_next ?_
        obtain ⟨at_2301, hx2302, hb2247⟩ := bindS hb2247
        refine x_setI w2300 (e_op rr_sub (e_var (R := rI) (x := x2283) rfl rfl) (e_var (R := rI) (x := size0) rfl rfl)) hx2302 ?_
        intro H2303 w2304
        refine x_next ?_
        have hb2247 : Stp.nx (x2275.2, at_2301) = q2249 := Option.some.inj hb2247
        subst hb2247
        exact ⟨G2287, (x2275.2, at_2301), (some (V.int x2283)), (some (V.int x2255)), w2304, (((e2252.trans e2265).trans e2280).trans e2289), rfl, hm2248⟩
    · rintro σ' G2305 H2308 ⟨s2244, u2245, u2246, w2306, e2307, rfl, hm2248⟩
      have hm2248 := forL_end hm2248
      subst hm2248
      have h := elimL h
      have h2310 := Rep.mono _ e2307 hnodes_here0
      obtain ⟨a2311, hx2312, h⟩ := bindS h
      obtain ⟨h8, h9⟩ : a2311 = r ∧ s2244.1 = k' := Prod.mk.inj (Option.some.inj h)
      subst h8
      subst h9
      exact x_ret w2306 e_int hx2312 (fun v9 H9 G9 w9 e9 r9 => k v9 H9 G9 w9.f (w9.w.dropN 0) r9)
def m__law_look_b1 (name0 : Str) (asks0 : (List (Str × Int))) (x2328 : (Str × Int)) (s2318 : Unit) : Option (Stp Unit (Int × (List (Str × Int)))) :=
  (some (decide (x2328.1 = name0)) >>= fun b2333 => bif b2333 then (some x2328.2 >>= fun a2338 => some (Stp.rt (a2338, asks0))) else some (Stp.nx ()))
def m__law_look (asks0 : (List (Str × Int))) (table0 : (List (Str × Int))) (name0 : Str) : Option (Int × (List (Str × Int))) :=
  ( forL (m__law_look_b1 name0 asks0) asks0 () >>= Sum.elim (fun s2318 => ((lookM table0 name0 >>= fun t2349 => some (name0, t2349)) >>= fun a2350 => appM asks0 a2350 >>= fun asks_2351 => (lookM table0 name0 >>= fun a2360 => some (a2360, asks_2351)))) (fun r => some r))
theorem sc__law_look : FnScope ["_law_asks", "_law_table", "_law_name", "_law_pair"] ["_law_asks", "_law_table", "_law_name"] (defScope s__law_look) := ⟨rfl, rfl, rfl, by decide +kernel, rfl, by decide +kernel, by decide +kernel⟩
theorem ok__law_look (T : Tx K mg) : Fk P w K mg base CX0 1 "_law_look" ["_law_asks", "_law_table", "_law_name"] (P1 (aC (rM Sum.inr rI) (aC rS aN)) (rP rS rI) rI (fun ys i => m__law_look ys i.1 i.2.1)) := by
  obtain ⟨fd, F⟩ := T.def_ 25 rfl
  have nd := sc__law_look.nd
  refine fk_mk T.toTx (x := "_law_look") (T.glo 30 rfl) F (fun _ _ _ _ _ _ us hl => match us, hl with | [_, _, _], _ => rfl) (F.ok sc__law_look (fun vs H Q E h => ?_) (fun cdv A outer s H vs Q E hr h => ?_))
  · obtain ⟨G, ⟨l, ⟨table0, name0, ⟨⟩⟩⟩, asks0, r, k', ⟨_, _, rfl, rfl, ⟨vtable0, _, rfl, htable0, vname0, _, rfl, hname0, rfl⟩⟩, wd, h, k⟩ := h
    rfl
  · obtain ⟨G, ⟨l, ⟨table0, name0, ⟨⟩⟩⟩, asks0, r, k', ⟨_, _, rfl, rfl, ⟨vtable0, _, rfl, htable0, vname0, _, rfl, hname0, rfl⟩⟩, wd, h, k⟩ := h
    cases hname0
    have e0 : Evl.Ex G H := wd.ex
    have w0 : Wo G H [l] G H _ := Wo.startC wd
    have h : m__law_look asks0 table0 name0 = some (r, k') := h
    unfold m__law_look at h
    refine ⟨_, PSs.nox (pss_cons (ps_for PassesOwn.never rfl (show L2.PI _ _ _ (iList K _) from pi_list (pv 0)) (pg_name (i := 3) nd rfl (Or.inl rfl)) (pss_cons (ps_if (pt_cmpR op_eq (pe_ix (r := rIxT K) ix_tup (pv 3) pe_int (fun _ _ => rfl)) (pv 2) (nomark _)) (pss_cons (ps_ret (pe_ix (r := rIxT K) ix_tup (pv 3) pe_int (fun _ _ => rfl))) pss_nil) pss_nil) pss_nil)) (pss_cons (ps_expr (pe_bm PySem.F.plainAttrs_list PySem.F.slot_list_append PySem.F.type_list_append mt_append (pv 0) (pa_cons (pe_tup (pa_cons (pv 2) (pa_cons (pe_dget (hu_of hr) (pv 1) (pv 2) (fun _ _ => rfl)) pa_nil))) pa_nil))) (pss_cons (ps_ret (pe_dget (hu_of hr) (pv 1) (pv 2) (fun _ _ => rfl))) pss_nil))), ?_⟩
    obtain ⟨vs2313, w2314⟩ := w0.fixAt (j := 0) rfl
    have w2314 : Wo G H [l] G H [(l, cF vs2313 (rP rS rI) asks0)] := w2314
    obtain ⟨t2316, hx2317, h⟩ := bindS h
    refine x_forC w2314 (j := 0) rfl rfl (fun i G' H' σ' => ∃ s2318 : Unit, ∃ u2319 : Option V, Wo G H [l] G' H' [(l, cF vs2313 (rP rS rI) asks0)] ∧ Evl.Ex G G' ∧ σ' = [some (V.ref l), some vtable0, some (V.str name0), u2319] ∧ forL (m__law_look_b1 name0 asks0) (asks0.drop i) s2318 = some t2316) (fun _ _ _ _ ⟨_, _, w, _⟩ => ⟨_, w, rfl⟩) ?_ ?_ ?_
    · exact ⟨(), (none), w2314, (Evl.Ex.refl _), rfl, hx2317⟩
    · rintro i2327 x2328 v2330 σ' G2323 H2326 hx2329 ⟨s2318, u2319, w2324, e2325, rfl, hm2321⟩ r2331
      obtain ⟨q2322, hb2320, hm2321⟩ := forL_at hx2329 hm2321
      have h2332 := Rep.mono _ e2325 htable0
      refine g_name ?_
      unfold m__law_look_b1 at hb2320
      obtain ⟨b2333, hx2334, hb2320⟩ := bindS hb2320
      refine x_if w2324 (et_T (e_op rr_eqS (e_fst (e_var (R := (rP rS rI)) (x := x2328) rfl (Rep.mono _ w2324.ex r2331))) (e_var (R := rS) (x := name0) rfl rfl))) hx2334 ?_ ?_
      · intro hbb2333 H2335 w2336
        subst hbb2333
        have hb2320 := bifT hb2320
        have w2337 := w2336.unfixAt (j := 0) rfl
        have w2337 : Wo G H [l] G2323 H2335 [(l, cL (rP rS rI) asks0)] := w2337
        obtain ⟨a2338, hx2339, hb2320⟩ := bindS hb2320
        have hb2320 : some (Stp.rt (a2338, asks0)) = some q2322 := hb2320
        cases hb2320
        have hm2321 : some (Sum.inr (a2338, asks0)) = some t2316 := hm2321
        cases hm2321
        obtain ⟨h8, h9⟩ : a2338 = r ∧ asks0 = k' := Prod.mk.inj (Option.some.inj h)
        subst h8
        subst h9
        exact x_ret w2337 (e_snd (e_var (R := (rP rS rI)) (x := x2328) rfl r2331)) hx2339 (fun v9 H9 G9 w9 e9 r9 => k v9 H9 G9 w9.f (w9.sub1 (i := 0) rfl) r9)
      · intro hbb2333 H2340 w2341
        subst hbb2333
        have hb2320 := bifF hb2320
        refine x_next ?_
        refine x_next ?_
        have hb2320 : Stp.nx () = q2322 := Option.some.inj hb2320
        subst hb2320
        exact ⟨G2323, (), (some v2330), w2341, e2325, rfl, hm2321⟩
    · rintro σ' G2342 H2345 ⟨s2318, u2319, w2343, e2344, rfl, hm2321⟩
      have hm2321 := forL_end hm2321
      subst hm2321
      have h := elimL h
      have h2347 := Rep.mono _ e2344 htable0
      have w2348 := w2343.unfixAt (j := 0) rfl
      have w2348 : Wo G H [l] G2342 H2345 [(l, cL (rP rS rI) asks0)] := w2348
      obtain ⟨a2350, hx2352, h⟩ := bindS h
      obtain ⟨asks_2351, hx2353, h⟩ := bindS h
      obtain ⟨hs2354, rfl⟩ := appM_ok hx2353
      refine x_app (j := 0) w2348 rfl hs2354 rfl (e_pair (e_var (R := rS) (x := name0) rfl rfl) (e_dget kyS injS (e_var (R := (rM Sum.inr rI)) (x := table0) rfl h2347) (e_var (R := rS) (x := name0) rfl rfl))) (by first | (simp only [be1, bs1, ba1] at hx2352 ⊢; exact hx2352) | exact hx2352) ?_
      intro H2355 G2356 w2357 e2358
      have h2359 := Rep.mono _ e2358 h2347
      have w2357 : Wo G H [l] G2356 H2355 [(l, cL (rP rS rI) (asks0 ++ [a2350]))] := w2357
      obtain ⟨a2360, hx2361, h⟩ := bindS h
      obtain ⟨h8, h9⟩ : a2360 = r ∧ (asks0 ++ [a2350]) = k' := Prod.mk.inj (Option.some.inj h)
      subst h8
      subst h9
      exact x_ret w2357 (e_dget kyS injS (e_var (R := (rM Sum.inr rI)) (x := table0) rfl h2359) (e_var (R := rS) (x := name0) rfl rfl)) (by first | (simp only [be1, bs1, ba1] at hx2361 ⊢; exact hx2361) | exact hx2361) (fun v9 H9 G9 w9 e9 r9 => k v9 H9 G9 w9.f (w9.sub1 (i := 0) rfl) r9)
def m__law_tables_b3 (x2427 : (List (Str × Int))) (x2392 : Str) (x2454 : Int) (s2443 : (List (List (Str × Int)))) : Option (List (List (Str × Int))) :=
  (some x2427 >>= fun wider_2459 => (some x2454 >>= fun a2470 => (some x2392 >>= fun k2472 => putMM wider_2459 k2472 a2470 >>= fun wider_2473 => (some wider_2473 >>= fun a2490 => appM s2443 a2490 >>= fun longer_2491 => some (longer_2491)))))
def m__law_tables_b2 (size0 : Int) (x2392 : Str) (x2427 : (List (Str × Int))) (s2415 : (List (List (Str × Int)))) : Option (List (List (Str × Int))) :=
  (some size0 >>= fun n2436 => rngM 0 n2436 >>= fun xs2438 => forS (m__law_tables_b3 x2427 x2392) xs2438 s2415 >>= fun s2443 => some (s2443))
def m__law_tables_b1 (size0 : Int) (x2392 : Str) (s2376 : (List (List (Str × Int)))) : Option (List (List (Str × Int))) :=
  (some ([]) >>= fun longer_2400 => (some s2376 >>= fun xs2410 => forS (m__law_tables_b2 size0 x2392) xs2410 longer_2400 >>= fun s2415 => (some s2415 >>= fun tables_here_2525 => some (tables_here_2525))))
def m__law_tables (names_here0 : (List Str)) (size0 : Int) : Option (List (List (Str × Int))) :=
  (some ([([] : (List (Str × Int)))]) >>= fun tables_here_2362 => (some names_here0 >>= fun xs2371 => forS (m__law_tables_b1 size0) xs2371 tables_here_2362 >>= fun s2376 => (some s2376 >>= fun a2543 => some a2543)))
theorem sc__law_tables : FnScope ["_law_names_here", "_law_size", "_law_tables_here", "_law_name", "_law_longer", "_law_table", "_law_value", "_law_wider"] ["_law_names_here", "_law_size"] (defScope s__law_tables) := ⟨rfl, rfl, rfl, by decide +kernel, rfl, by decide +kernel, by decide +kernel⟩
theorem ok__law_tables (T : Tx K mg) : Fk P w K mg base CX0 1 "_law_tables" ["_law_names_here", "_law_size"] (PF (aC (rL rS) (aC rI aN)) (rL (rM Sum.inr rI)) (fun i => m__law_tables i.1 i.2.1)) := by
  obtain ⟨fd, F⟩ := T.def_ 26 rfl
  have nd := sc__law_tables.nd
  refine fk_mk T.toTx (x := "_law_tables") (T.glo 31 rfl) F (fun _ _ _ _ _ _ us hl => match us, hl with | [_, _], _ => rfl) (F.ok sc__law_tables (fun vs H Q E h => ?_) (fun cdv A outer s H vs Q E hr h => ?_))
  · obtain ⟨G, ⟨names_here0, size0, ⟨⟩⟩, r, e0, ⟨vnames_here0, _, rfl, hnames_here0, vsize0, _, rfl, hsize0, rfl⟩, h, k⟩ := h
    rfl
  · obtain ⟨G, ⟨names_here0, size0, ⟨⟩⟩, r, e0, ⟨vnames_here0, _, rfl, hnames_here0, vsize0, _, rfl, hsize0, rfl⟩, h, k⟩ := h
    cases hsize0
    have w0 := Wo.start e0
    have h : m__law_tables names_here0 size0 = some r := h
    unfold m__law_tables at h
    refine ⟨_, PSs.nox (pss_cons (ps_set (i := 2) nd rfl (Or.inl rfl) (pe_lst (pa_cons pe_dnewK pa_nil))) (pss_cons (ps_for PassesOwn.never rfl (pi_list (pv 0)) (pg_name (i := 3) nd rfl (Or.inl rfl)) (pss_cons (ps_set (i := 4) nd rfl (Or.inl rfl) (pe_lst pa_nil)) (pss_cons (ps_for PassesOwn.never rfl (pi_list (pv 2)) (pg_name (i := 5) nd rfl (Or.inl rfl)) (pss_cons (ps_for PassesOwn.never rfl (pi_range1 (by rfl) (fr_range T) (pa_cons (pv 1) pa_nil)) (pg_name (i := 6) nd rfl (Or.inl rfl)) (pss_cons (ps_set (i := 7) nd rfl (Or.inl rfl) (pe_callTy (r := rDcD) call_dictD (by rfl) (fr_dict T) (by decide +kernel) (pa_cons (pv 5) pa_nil))) (pss_cons (ps_dput (hu_of hr) (pv 7) (pv 3) (pv 6) rfl) (pss_cons (ps_expr (pe_bm PySem.F.plainAttrs_list PySem.F.slot_list_append PySem.F.type_list_append mt_append (pv 4) (pa_cons (pv 7) pa_nil))) pss_nil)))) pss_nil)) (pss_cons (ps_set (i := 2) nd rfl (Or.inl rfl) (pe_callTy (r := rLs K) call_list_of (by rfl) (fr_list T) (by decide +kernel) (pa_cons (pv 4) pa_nil))) pss_nil)))) (pss_cons (ps_ret (pv 2)) pss_nil))), ?_⟩
    obtain ⟨tables_here_2362, hx2363, h⟩ := bindS h
    refine x_set w0 (EL.e (el_disp (eal_cons (EC.e fzM (ec_dnew (kf := Sum.inr) (R := rI))) eal_nil))) hx2363 ?_
    intro v2366 H2364 G2367 w2365 e2368 h2369
    have h2370 := Rep.mono _ e2368 hnames_here0
    obtain ⟨xs2371, hx2372, h⟩ := bindS h
    obtain ⟨t2374, hx2375, h⟩ := bindS h
    refine x_forL w2365 (e_var (R := (rL rS)) (x := names_here0) rfl h2370) hx2372 (fun i G' H' σ' => ∃ s2376 : (List (List (Str × Int))), ∃ v2377 : V, ∃ u2379 : Option V, ∃ u2380 : Option V, ∃ u2381 : Option V, ∃ u2382 : Option V, ∃ u2383 : Option V, Wo G H [] G' H' [] ∧ Evl.Ex G2367 G' ∧ σ' = [some vnames_here0, some (V.int size0), some v2377, u2380, u2379, u2381, u2382, u2383] ∧ (rL (rM Sum.inr rI)).r G' v2377 s2376 ∧ forS (m__law_tables_b1 size0) (xs2371.drop i) s2376 = some t2374) (fun _ _ _ _ ⟨_, _, _, _, _, _, _, w, _⟩ => w.ex) ?_ ?_ ?_
    · intro G' H' w' e'
      exact ⟨tables_here_2362, v2366, (none), (none), (none), (none), (none), w', e', rfl, (Rep.mono _ e' h2369), hx2375⟩
    · rintro G2394 e2395 i2391 x2392 v2396 σ' G2387 H2390 hx2393 e2398 ⟨s2376, v2377, u2379, u2380, u2381, u2382, u2383, w2388, e2389, rfl, h2378, hm2385⟩ r2397
      obtain ⟨q2386, hb2384, hm2385⟩ := forS_at hx2393 hm2385
      have h2399 := Rep.mono _ e2389 h2370
      refine g_name ?_
      cases r2397
      unfold m__law_tables_b1 at hb2384
      obtain ⟨longer_2400, hx2401, hb2384⟩ := bindS hb2384
      refine x_setL w2388 (el_disp (R := (rM Sum.inr rI)) eal_nil) hx2401 ?_
      intro p2404 H2402 G2405 n2406 w2403 e2407
      have h2408 := Rep.mono _ e2407 h2399
      have h2409 := Rep.mono _ e2407 h2378
      obtain ⟨xs2410, hx2411, hb2384⟩ := bindS hb2384
      obtain ⟨t2413, hx2414, hb2384⟩ := bindS hb2384
      refine x_forL w2403 (e_var (R := (rL (rM Sum.inr rI))) (x := s2376) rfl h2409) hx2411 (fun i G' H' σ' => ∃ s2415 : (List (List (Str × Int))), ∃ u2416 : Option V, ∃ u2417 : Option V, ∃ u2418 : Option V, Wo G H [] G' H' [(p2404, cL (rM Sum.inr rI) s2415)] ∧ Evl.Ex G2405 G' ∧ σ' = [some vnames_here0, some (V.int size0), some v2377, some (V.str x2392), some (V.ref p2404), u2416, u2417, u2418] ∧ forS (m__law_tables_b2 size0 x2392) (xs2410.drop i) s2415 = some t2413) (fun _ _ _ _ ⟨_, _, _, _, w, _⟩ => w.ex) ?_ ?_ ?_
      · intro G' H' w' e'
        exact ⟨longer_2400, (u2381), (u2382), (u2383), w', e', rfl, hx2414⟩
      · rintro G2429 e2430 i2426 x2427 v2431 σ' G2422 H2425 hx2428 e2433 ⟨s2415, u2416, u2417, u2418, w2423, e2424, rfl, hm2420⟩ r2432
        obtain ⟨q2421, hb2419, hm2420⟩ := forS_at hx2428 hm2420
        have h2434 := Rep.mono _ e2424 h2408
        have h2435 := Rep.mono _ e2424 h2409
        refine g_name ?_
        unfold m__law_tables_b2 at hb2419
        obtain ⟨n2436, hx2437, hb2419⟩ := bindS hb2419
        obtain ⟨xs2438, hx2439, hb2419⟩ := bindS hb2419
        obtain ⟨t2441, hx2442, hb2419⟩ := bindS hb2419
        refine x_forR w2423 (ea_cons (Sim.E.is (e_var (R := rI) (x := size0) rfl rfl) hx2437) ea_nil) rfl hx2439 (fun i G' H' σ' => ∃ s2443 : (List (List (Str × Int))), ∃ u2444 : Option V, ∃ u2445 : Option V, Wo G H [] G' H' [(p2404, cL (rM Sum.inr rI) s2443)] ∧ Evl.Ex G2422 G' ∧ σ' = [some vnames_here0, some (V.int size0), some v2377, some (V.str x2392), some (V.ref p2404), some v2431, u2444, u2445] ∧ forS (m__law_tables_b3 x2427 x2392) (xs2438.drop i) s2443 = some t2441) ?_ ?_ ?_
        · intro G' H' w' e'
          exact ⟨s2415, (u2417), (u2418), w', e', rfl, hx2442⟩
        · rintro i2453 x2454 σ' G2449 H2452 hx2455 ⟨s2443, u2444, u2445, w2450, e2451, rfl, hm2447⟩
          obtain ⟨q2448, hb2446, hm2447⟩ := forS_at hx2455 hm2447
          have h2456 := Rep.mono _ e2451 h2434
          have h2457 := Rep.mono _ e2451 h2435
          have h2458 := Rep.mono _ e2451 r2432
          refine g_name ?_
          unfold m__law_tables_b3 at hb2446
          obtain ⟨wider_2459, hx2460, hb2446⟩ := bindS hb2446
          refine x_setC w2450 (ec_dictM (e_var (R := (rM Sum.inr rI)) (x := x2427) rfl h2458)) hx2460 ?_
          intro p2463 H2461 G2464 n2465 w2462 e2466
          have h2467 := Rep.mono _ e2466 h2456
          have h2468 := Rep.mono _ e2466 h2457
          have h2469 := Rep.mono _ e2466 h2458
          obtain ⟨a2470, hx2471, hb2446⟩ := bindS hb2446
          obtain ⟨k2472, hx2474, hb2446⟩ := bindS hb2446
          obtain ⟨wider_2473, hx2475, hb2446⟩ := bindS hb2446
          refine x_putM kyS injS (j := 0) w2462 rfl rfl (e_var (R := rI) (x := x2454) rfl rfl) hx2471 (e_var (R := rS) (x := x2392) rfl rfl) hx2474 hx2475 ?_
          intro H2476 G2477 w2478 e2479
          have h2480 := Rep.mono _ e2479 h2467
          have h2481 := Rep.mono _ e2479 h2468
          have h2482 := Rep.mono _ e2479 h2469
          have w2478 : Wo G H [] G2477 H2476 [(p2463, cM Sum.inr rI wider_2473), (p2404, cL (rM Sum.inr rI) s2443)] := w2478
          obtain ⟨G2483, w2484, e2485, h2486⟩ := w2478.freezeC fzM (i := 0) rfl n2465
          have h2487 := Rep.mono _ e2485 h2480
          have h2488 := Rep.mono _ e2485 h2481
          have h2489 := Rep.mono _ e2485 h2482
          have w2484 : Wo G H [] G2483 H2476 [(p2404, cL (rM Sum.inr rI) s2443)] := w2484
          obtain ⟨a2490, hx2492, hb2446⟩ := bindS hb2446
          obtain ⟨longer_2491, hx2493, hb2446⟩ := bindS hb2446
          obtain ⟨hs2494, rfl⟩ := appM_ok hx2493
          refine x_app (j := 0) w2484 rfl hs2494 rfl (e_var (R := (rM Sum.inr rI)) (x := wider_2473) rfl h2486) hx2492 ?_
          intro H2495 G2496 w2497 e2498
          have h2499 := Rep.mono _ e2498 h2487
          have h2500 := Rep.mono _ e2498 h2488
          have h2501 := Rep.mono _ e2498 h2489
          have h2502 := Rep.mono _ e2498 h2486
          have w2497 : Wo G H [] G2496 H2495 [(p2404, cL (rM Sum.inr rI) (s2443 ++ [a2490]))] := w2497
          refine x_next ?_
          have hb2446 : (s2443 ++ [a2490]) = q2448 := Option.some.inj hb2446
          subst hb2446
          exact ⟨G2496, (s2443 ++ [a2490]), (some (V.int x2454)), (some (V.ref p2463)), w2497, ((((e2451.trans e2466).trans e2479).trans e2485).trans e2498), rfl, hm2447⟩
        · rintro σ' G2503 H2506 ⟨s2443, u2444, u2445, w2504, e2505, rfl, hm2447⟩
          have hm2447 := forS_end hm2447
          subst hm2447
          have h2508 := Rep.mono _ e2505 h2434
          have h2509 := Rep.mono _ e2505 h2435
          have h2510 := Rep.mono _ e2505 r2432
          refine x_next ?_
          have hb2419 : s2443 = q2421 := Option.some.inj hb2419
          subst hb2419
          exact ⟨G2503, (e2433.trans e2505), s2443, (some v2431), (u2444), (u2445), w2504, (e2424.trans e2505), rfl, hm2420⟩
      · rintro σ' G2511 H2514 e2515 ⟨s2415, u2416, u2417, u2418, w2512, e2513, rfl, hm2420⟩
        have hm2420 := forS_end hm2420
        subst hm2420
        have h2517 := Rep.mono _ e2513 h2408
        have h2518 := Rep.mono _ e2513 h2409
        obtain ⟨G2519, w2520, e2521, h2522⟩ := w2512.freezeAt (i := 0) rfl n2406
        have h2523 := Rep.mono _ e2521 h2517
        have h2524 := Rep.mono _ e2521 h2518
        have w2520 : Wo G H [] G2519 H2514 [] := w2520
        obtain ⟨tables_here_2525, hx2526, hb2384⟩ := bindS hb2384
        refine x_set w2520 (EL.e (el_cb rc_listL (ea_cons (e_var (R := (rL (rM Sum.inr rI))) (x := s2415) rfl h2522) ea_nil))) hx2526 ?_
        intro v2529 H2527 G2530 w2528 e2531 h2532
        have h2533 := Rep.mono _ e2531 h2523
        have h2534 := Rep.mono _ e2531 h2524
        have h2535 := Rep.mono _ e2531 h2522
        refine x_next ?_
        have hb2384 : tables_here_2525 = q2386 := Option.some.inj hb2384
        subst hb2384
        exact ⟨G2530, (e2398.trans (((e2407.trans e2513).trans e2521).trans e2531)), tables_here_2525, v2529, (some (V.ref p2404)), (some (V.str x2392)), (u2416), (u2417), (u2418), w2528, ((((e2389.trans e2407).trans e2513).trans e2521).trans e2531), rfl, h2532, hm2385⟩
    · rintro σ' G2536 H2539 e2540 ⟨s2376, v2377, u2379, u2380, u2381, u2382, u2383, w2537, e2538, rfl, h2378, hm2385⟩
      have hm2385 := forS_end hm2385
      subst hm2385
      have h2542 := Rep.mono _ e2538 h2370
      obtain ⟨a2543, hx2544, h⟩ := bindS h
      have h : a2543 = r := Option.some.inj h
      subst h
      exact x_ret w2537 (e_var (R := (rL (rM Sum.inr rI))) (x := s2376) rfl h2378) hx2544 (fun v9 H9 G9 w9 e9 r9 => k v9 H9 G9 w9.upE r9)
def m__law_parted_b2 (x2649 : (List (Str × Int))) (masks_here0 : (List Int)) (names_here0 : (List Str)) (x2679 : (List (Str × Int))) (s2668 : Unit) : Option (Stp Unit Bool) :=
  ((mapS (fun x2697 => (lookM x2649 x2697 >>= fun t2702 => (lookM x2679 x2697 >>= fun t2703 => m__law_under masks_here0 t2702 t2703))) names_here0 >>= fun t2705 => some (t2705.all id)) >>= fun b2706 => bif b2706 then (some true >>= fun a2710 => some (Stp.rt a2710)) else some (Stp.nx ()))
def m__law_parted_b1 (highs_2610 : (List (List (Str × Int)))) (masks_here0 : (List Int)) (names_here0 : (List Str)) (x2649 : (List (Str × Int))) (s2637 : Unit) : Option (Stp Unit Bool) :=
  (some highs_2610 >>= fun xs2663 => forL (m__law_parted_b2 x2649 masks_here0 names_here0) xs2663 () >>= Sum.elim (fun s2668 => some (Stp.nx ())) (fun r => some (Stp.rt r)))
def m__law_parted (masks_here0 : (List Int)) (names_here0 : (List Str)) (one0 : ((List (Str × Int)) × Int)) (two0 : ((List (Str × Int)) × Int)) : Option Bool :=
  (m__law_tables names_here0 (masks_here0.length : Int) >>= fun tables_here_2545 => (lcS (fun x2560 => (mapS (fun x2568 => (lookM x2560 x2568.1 >>= fun t2573 => some (t2573 == x2568.2))) one0.1 >>= fun t2575 => some (t2575.all id))) (fun x2560 => some x2560) tables_here_2545 >>= fun lows_2577 => (lcS (fun x2593 => (mapS (fun x2601 => (lookM x2593 x2601.1 >>= fun t2606 => some (t2606 == x2601.2))) two0.1 >>= fun t2608 => some (t2608.all id))) (fun x2593 => some x2593) tables_here_2545 >>= fun highs_2610 => (m__law_under masks_here0 one0.2 two0.2 >>= fun b2624 => bif b2624 then (some false >>= fun a2628 => some a2628) else (some lows_2577 >>= fun xs2632 => forL (m__law_parted_b1 highs_2610 masks_here0 names_here0) xs2632 () >>= Sum.elim (fun s2637 => (some false >>= fun a2741 => some a2741)) (fun r => some r))))))
theorem sc__law_parted : FnScope ["_law_masks_here", "_law_names_here", "_law_one", "_law_two", "_law_tables_here", "_law_lows", "_law_highs", "_law_low", "_law_high", "_law_table", "_law_pair", "_law_name"] ["_law_masks_here", "_law_names_here", "_law_one", "_law_two"] (defScope s__law_parted) := ⟨rfl, rfl, rfl, by decide +kernel, rfl, by decide +kernel, by decide +kernel⟩
theorem ok__law_parted (T : Tx K mg) : Fk P w K mg base CX0 2 "_law_parted" ["_law_masks_here", "_law_names_here", "_law_one", "_law_two"] (PF (aC (rL rI) (aC (rL rS) (aC (rP (rL (rP rS rI)) rI) (aC (rP (rL (rP rS rI)) rI) aN)))) rB (fun i => m__law_parted i.1 i.2.1 i.2.2.1 i.2.2.2.1)) := by
  obtain ⟨fd__law_tables, G__law_tables, b__law_tables, k__law_tables, g__law_tables⟩ := ok__law_tables (w := w) (base := base) T
  obtain ⟨fd__law_under, G__law_under, b__law_under, k__law_under, g__law_under⟩ := ok__law_under (w := w) (base := base) T
  obtain ⟨fd, F⟩ := T.def_ 27 rfl
  have nd := sc__law_parted.nd
  refine fk_mk T.toTx (x := "_law_parted") (T.glo 32 rfl) F (fun _ _ _ _ _ _ us hl => match us, hl with | [_, _, _, _], _ => rfl) (F.ok sc__law_parted (fun vs H Q E h => ?_) (fun cdv A outer s H vs Q E hr h => ?_))
  · obtain ⟨G, ⟨masks_here0, names_here0, one0, two0, ⟨⟩⟩, r, e0, ⟨vmasks_here0, _, rfl, hmasks_here0, vnames_here0, _, rfl, hnames_here0, vone0, _, rfl, hone0, vtwo0, _, rfl, htwo0, rfl⟩, h, k⟩ := h
    rfl
  · obtain ⟨G, ⟨masks_here0, names_here0, one0, two0, ⟨⟩⟩, r, e0, ⟨vmasks_here0, _, rfl, hmasks_here0, vnames_here0, _, rfl, hnames_here0, vone0, _, rfl, hone0, vtwo0, _, rfl, htwo0, rfl⟩, h, k⟩ := h
    have w0 := Wo.start e0
    have h : m__law_parted masks_here0 names_here0 one0 two0 = some r := h
    unfold m__law_parted at h
    refine ⟨_, PSs.nox (pss_cons (ps_set (i := 4) nd rfl (Or.inl rfl) (pe_call G__law_tables (hr.mono (by decide)) rfl g__law_tables k__law_tables b__law_tables .nil pass0 (pa_cons (pv 1) (pa_cons (pe_callB (r := rLn K) call_len_seq (by rfl) (fr_len T) (by decide +kernel) (pa_cons (pv 0) pa_nil)) pa_nil)))) (pss_cons (ps_setLc (i := 5) (own := [("_law_table", 9)]) (by rfl) nd rfl rfl (sw_true rfl rfl rfl (by decide +kernel)) (show L2.PI _ _ _ (iList K _) from pi_list (pv 4)) (blkOk_by (by kernel_rfl)) (fun _ _ _ _ _ => pg_name (i := 9) nd rfl (by first | exact Or.inl rfl | exact Or.inr rfl)) (fun _ _ _ _ _ => pts_one (pt_val (pe_callB (r := rAll K) (cr_all rfl) (by rfl) (fr_all T) (by decide +kernel) (pa_cons (pe_lc (own := [("_law_pair", 10)]) (by rfl) nd (show L2.PI _ _ _ (iList K _) from pi_list (pe_ix (r := rIxT K) ix_tup (pv 2) pe_int (fun _ _ => rfl))) (blkOk_by (by kernel_rfl)) (fun _ _ _ _ _ => pg_name (i := 10) nd rfl (by first | exact Or.inl rfl | exact Or.inr rfl)) (fun _ _ _ _ _ => pts_nil) (fun _ _ _ _ _ => (pe_cmpR op_eq (pe_dget (hu_of hr) (pv 9) (pe_ix (r := rIxT K) ix_tup (pv 10) pe_int (fun _ _ => rfl)) (fun _ _ => rfl)) (pe_ix (r := rIxT K) ix_tup (pv 10) pe_int (fun _ _ => rfl)) (nomark _)))) pa_nil)))) (fun _ _ _ _ _ => (pv 9))) (pss_cons (ps_setLc (i := 6) (own := [("_law_table", 9)]) (by rfl) nd rfl rfl (sw_true rfl rfl rfl (by decide +kernel)) (show L2.PI _ _ _ (iList K _) from pi_list (pv 4)) (blkOk_by (by kernel_rfl)) (fun _ _ _ _ _ => pg_name (i := 9) nd rfl (by first | exact Or.inl rfl | exact Or.inr rfl)) (fun _ _ _ _ _ => pts_one (pt_val (pe_callB (r := rAll K) (cr_all rfl) (by rfl) (fr_all T) (by decide +kernel) (pa_cons (pe_lc (own := [("_law_pair", 10)]) (by rfl) nd (show L2.PI _ _ _ (iList K _) from pi_list (pe_ix (r := rIxT K) ix_tup (pv 3) pe_int (fun _ _ => rfl))) (blkOk_by (by kernel_rfl)) (fun _ _ _ _ _ => pg_name (i := 10) nd rfl (by first | exact Or.inl rfl | exact Or.inr rfl)) (fun _ _ _ _ _ => pts_nil) (fun _ _ _ _ _ => (pe_cmpR op_eq (pe_dget (hu_of hr) (pv 9) (pe_ix (r := rIxT K) ix_tup (pv 10) pe_int (fun _ _ => rfl)) (fun _ _ => rfl)) (pe_ix (r := rIxT K) ix_tup (pv 10) pe_int (fun _ _ => rfl)) (nomark _)))) pa_nil)))) (fun _ _ _ _ _ => (pv 9))) (pss_cons (ps_if (pt_val (pe_call G__law_under (hr.mono (by decide)) rfl g__law_under k__law_under b__law_under .nil pass0 (pa_cons (pv 0) (pa_cons (pe_ix (r := rIxT K) ix_tup (pv 2) pe_int (fun _ _ => rfl)) (pa_cons (pe_ix (r := rIxT K) ix_tup (pv 3) pe_int (fun _ _ => rfl)) pa_nil))))) (pss_cons (ps_ret pe_bl) pss_nil) pss_nil) (pss_cons (ps_for PassesOwn.never rfl (pi_list (pv 5)) (pg_name (i := 7) nd rfl (Or.inr rfl)) (pss_cons (ps_for PassesOwn.never rfl (pi_list (pv 6)) (pg_name (i := 8) nd rfl (Or.inr rfl)) (pss_cons (ps_if (pt_val (pe_callB (r := rAll K) (cr_all rfl) (by rfl) (fr_all T) (by decide +kernel) (pa_cons (pe_lc (own := [("_law_name", 11)]) (by rfl) nd (show L2.PI _ _ _ (iList K _) from pi_list (pv 1)) (blkOk_by (by kernel_rfl)) (fun _ _ _ _ _ => pg_name (i := 11) nd rfl (by first | exact Or.inl rfl | exact Or.inr rfl)) (fun _ _ _ _ _ => pts_nil) (fun _ _ _ _ _ => (pe_call G__law_under (hr.mono (by decide)) rfl g__law_under k__law_under b__law_under .nil pass0 (pa_cons (pv 0) (pa_cons (pe_dget (hu_of hr) (pv 7) (pv 11) (fun _ _ => rfl)) (pa_cons (pe_dget (hu_of hr) (pv 8) (pv 11) (fun _ _ => rfl)) pa_nil)))))) pa_nil))) (pss_cons (ps_ret pe_bl) pss_nil) pss_nil) pss_nil)) pss_nil)) (pss_cons (ps_ret pe_bl) pss_nil)))))), ?_⟩
    obtain ⟨tables_here_2545, hx2546, h⟩ := bindS h
    refine x_set w0 (e_call (ea_cons (e_var (R := (rL rS)) (x := names_here0) rfl hnames_here0) (ea_cons (e_cb rc_lenL (ea_cons (e_var (R := (rL rI)) (x := masks_here0) rfl hmasks_here0) ea_nil)) ea_nil))) (by first | (simp only [be1, bs1, ba1] at hx2546 ⊢; exact hx2546) | exact hx2546) ?_
    intro v2549 H2547 G2550 w2548 e2551 h2552
    have h2553 := Rep.mono _ e2551 hmasks_here0
    have h2554 := Rep.mono _ e2551 hnames_here0
    have h2555 := Rep.mono _ e2551 hone0
    have h2556 := Rep.mono _ e2551 htwo0
    obtain ⟨lows_2577, hx2578, h⟩ := bindS h
    refine x_set w2548 (EL.e (el_lcL (j := 9) (e_var (R := (rL (rM Sum.inr rI))) (x := tables_here_2545) rfl h2552) (fun _ => rfl) (fun x2560 v2563 G2561 W2562 eG2557 eW2558 eX2559 h2564 => (et_B (e_cb rc_all (ea_cons (EL.e (el_map (el_lcL (j := 10) (e_fst (e_var (R := (rP (rL (rP rS rI)) rI)) (x := one0) rfl (Rep.mono _ eX2559 (Rep.mono _ eG2557 h2555)))) (fun _ => rfl) (fun _ _ _ _ _ _ _ _ => et_yes) (fun x2568 v2571 G2569 W2570 eG2565 eW2566 eX2567 h2572 => (e_op rr_eqI (e_dget kyS injS (e_var (R := (rM Sum.inr rI)) (x := x2560) rfl (Rep.mono _ eG2565 (Rep.mono _ eX2559 h2564))) (e_fst (e_var (R := (rP rS rI)) (x := x2568) rfl h2572))) (e_snd (e_var (R := (rP rS rI)) (x := x2568) rfl h2572))))))) ea_nil)))) (fun x2560 v2563 G2561 W2562 eG2557 eW2558 eX2559 h2564 => (e_var (R := (rM Sum.inr rI)) (x := x2560) rfl h2564)))) (by first | (simp only [be1, bs1, ba1] at hx2578 ⊢; exact hx2578) | exact hx2578) ?_
    intro v2581 H2579 G2582 w2580 e2583 h2584
    have h2585 := Rep.mono _ e2583 h2553
    have h2586 := Rep.mono _ e2583 h2554
    have h2587 := Rep.mono _ e2583 h2555
    have h2588 := Rep.mono _ e2583 h2556
    have h2589 := Rep.mono _ e2583 h2552
    obtain ⟨highs_2610, hx2611, h⟩ := bindS h
    refine x_set w2580 (EL.e (el_lcL (j := 9) (e_var (R := (rL (rM Sum.inr rI))) (x := tables_here_2545) rfl h2589) (fun _ => rfl) (fun x2593 v2596 G2594 W2595 eG2590 eW2591 eX2592 h2597 => (et_B (e_cb rc_all (ea_cons (EL.e (el_map (el_lcL (j := 10) (e_fst (e_var (R := (rP (rL (rP rS rI)) rI)) (x := two0) rfl (Rep.mono _ eX2592 (Rep.mono _ eG2590 h2588)))) (fun _ => rfl) (fun _ _ _ _ _ _ _ _ => et_yes) (fun x2601 v2604 G2602 W2603 eG2598 eW2599 eX2600 h2605 => (e_op rr_eqI (e_dget kyS injS (e_var (R := (rM Sum.inr rI)) (x := x2593) rfl (Rep.mono _ eG2598 (Rep.mono _ eX2592 h2597))) (e_fst (e_var (R := (rP rS rI)) (x := x2601) rfl h2605))) (e_snd (e_var (R := (rP rS rI)) (x := x2601) rfl h2605))))))) ea_nil)))) (fun x2593 v2596 G2594 W2595 eG2590 eW2591 eX2592 h2597 => (e_var (R := (rM Sum.inr rI)) (x := x2593) rfl h2597)))) (by first | (simp only [be1, bs1, ba1] at hx2611 ⊢; exact hx2611) | exact hx2611) ?_
    intro v2614 H2612 G2615 w2613 e2616 h2617
    have h2618 := Rep.mono _ e2616 h2585
    have h2619 := Rep.mono _ e2616 h2586
    have h2620 := Rep.mono _ e2616 h2587
    have h2621 := Rep.mono _ e2616 h2588
    have h2622 := Rep.mono _ e2616 h2589
    have h2623 := Rep.mono _ e2616 h2584
    obtain ⟨b2624, hx2625, h⟩ := bindS h
    refine x_if w2613 (et_B (e_call (ea_cons (e_var (R := (rL rI)) (x := masks_here0) rfl (Rep.mono _ w2613.ex h2618)) (ea_cons (e_snd (e_var (R := (rP (rL (rP rS rI)) rI)) (x := one0) rfl (Rep.mono _ w2613.ex h2620))) (ea_cons (e_snd (e_var (R := (rP (rL (rP rS rI)) rI)) (x := two0) rfl (Rep.mono _ w2613.ex h2621))) ea_nil))))) (by first | (simp only [be1, bs1, ba1] at hx2625 ⊢; exact hx2625) | exact hx2625) ?_ ?_
    · intro hbb2624 H2626 w2627
      subst hbb2624
      have h := bifT h
      obtain ⟨a2628, hx2629, h⟩ := bindS h
      have h : a2628 = r := Option.some.inj h
      subst h
      exact x_ret w2627 e_bl hx2629 (fun v9 H9 G9 w9 e9 r9 => k v9 H9 G9 w9.upE r9)
    · intro hbb2624 H2630 w2631
      subst hbb2624
      have h := bifF h
      refine x_next ?_
      obtain ⟨xs2632, hx2633, h⟩ := bindS h
      obtain ⟨t2635, hx2636, h⟩ := bindS h
      refine x_forL w2631 (e_var (R := (rL (rM Sum.inr rI))) (x := lows_2577) rfl h2623) hx2633 (fun i G' H' σ' => ∃ s2637 : Unit, ∃ u2638 : Option V, ∃ u2639 : Option V, ∃ u2640 : Option V, Wo G H [] G' H' [] ∧ Evl.Ex G2615 G' ∧ σ' = [some vmasks_here0, some vnames_here0, some vone0, some vtwo0, some v2549, some v2581, some v2614, u2639, u2638, none, none, u2640] ∧ forL (m__law_parted_b1 highs_2610 masks_here0 names_here0) (xs2632.drop i) s2637 = some t2635) (fun _ _ _ _ ⟨_, _, _, _, w, _⟩ => w.ex) ?_ ?_ ?_
      · intro G' H' w' e'
        exact ⟨(), (none), (none), (none), w', e', rfl, hx2636⟩
      · rintro G2651 e2652 i2648 x2649 v2653 σ' G2644 H2647 hx2650 e2655 ⟨s2637, u2638, u2639, u2640, w2645, e2646, rfl, hm2642⟩ r2654
        obtain ⟨q2643, hb2641, hm2642⟩ := forL_at hx2650 hm2642
        have h2656 := Rep.mono _ e2646 h2618
        have h2657 := Rep.mono _ e2646 h2619
        have h2658 := Rep.mono _ e2646 h2620
        have h2659 := Rep.mono _ e2646 h2621
        have h2660 := Rep.mono _ e2646 h2622
        have h2661 := Rep.mono _ e2646 h2623
        have h2662 := Rep.mono _ e2646 h2617
        refine g_name ?_
        unfold m__law_parted_b1 at hb2641
        obtain ⟨xs2663, hx2664, hb2641⟩ := bindS hb2641
        obtain ⟨t2666, hx2667, hb2641⟩ := bindS hb2641
        refine x_forL w2645 (e_var (R := (rL (rM Sum.inr rI))) (x := highs_2610) rfl h2662) hx2664 (fun i G' H' σ' => ∃ s2668 : Unit, ∃ u2669 : Option V, ∃ u2670 : Option V, Wo G H [] G' H' [] ∧ Evl.Ex G2644 G' ∧ σ' = [some vmasks_here0, some vnames_here0, some vone0, some vtwo0, some v2549, some v2581, some v2614, some v2653, u2669, none, none, u2670] ∧ forL (m__law_parted_b2 x2649 masks_here0 names_here0) (xs2663.drop i) s2668 = some t2666) (fun _ _ _ _ ⟨_, _, _, w, _⟩ => w.ex) ?_ ?_ ?_
        · intro G' H' w' e'
          exact ⟨(), (u2638), (u2640), w', e', rfl, hx2667⟩
        · rintro G2681 e2682 i2678 x2679 v2683 σ' G2674 H2677 hx2680 e2685 ⟨s2668, u2669, u2670, w2675, e2676, rfl, hm2672⟩ r2684
          obtain ⟨q2673, hb2671, hm2672⟩ := forL_at hx2680 hm2672
          have h2686 := Rep.mono _ e2676 h2656
          have h2687 := Rep.mono _ e2676 h2657
          have h2688 := Rep.mono _ e2676 h2658
          have h2689 := Rep.mono _ e2676 h2659
          have h2690 := Rep.mono _ e2676 h2660
          have h2691 := Rep.mono _ e2676 h2661
          have h2692 := Rep.mono _ e2676 h2662
          have h2693 := Rep.mono _ e2676 r2654
          refine g_name ?_
          unfold m__law_parted_b2 at hb2671
          obtain ⟨b2706, hx2707, hb2671⟩ := bindS hb2671
          refine x_if w2675 (et_B (e_cb rc_all (ea_cons (EL.e (el_map (el_lcL (j := 11) (e_var (R := (rL rS)) (x := names_here0) rfl (Rep.mono _ w2675.ex h2687)) (fun _ => rfl) (fun _ _ _ _ _ _ _ _ => et_yes) (fun x2697 v2700 G2698 W2699 eG2694 eW2695 eX2696 h2701 => (e_call (ea_cons (e_var (R := (rL rI)) (x := masks_here0) rfl (Rep.mono _ eG2694 (Rep.mono _ w2675.ex h2686))) (ea_cons (e_dget kyS injS (e_var (R := (rM Sum.inr rI)) (x := x2649) rfl (Rep.mono _ eG2694 (Rep.mono _ w2675.ex h2693))) (e_var (R := rS) (x := x2697) rfl h2701)) (ea_cons (e_dget kyS injS (e_var (R := (rM Sum.inr rI)) (x := x2679) rfl (Rep.mono _ eG2694 (Rep.mono _ w2675.ex r2684))) (e_var (R := rS) (x := x2697) rfl h2701)) ea_nil)))))))) ea_nil))) (by first | (simp only [be1, bs1, ba1] at hx2707 ⊢; exact hx2707) | exact hx2707) ?_ ?_
          · intro hbb2706 H2708 w2709
            subst hbb2706
            have hb2671 := bifT hb2671
            obtain ⟨a2710, hx2711, hb2671⟩ := bindS hb2671
            have hb2671 : some (Stp.rt a2710) = some q2673 := hb2671
            cases hb2671
            have hm2672 : some (Sum.inr a2710) = some t2666 := hm2672
            cases hm2672
            have hb2641 : some (Stp.rt a2710) = some q2643 := hb2641
            cases hb2641
            have hm2642 : some (Sum.inr a2710) = some t2635 := hm2642
            cases hm2642
            have h : a2710 = r := Option.some.inj h
            subst h
            exact x_ret w2709 e_bl hx2711 (fun v9 H9 G9 w9 e9 r9 => k v9 H9 G9 w9.upE r9)
          · intro hbb2706 H2712 w2713
            subst hbb2706
            have hb2671 := bifF hb2671
            refine x_next ?_
            refine x_next ?_
            have hb2671 : Stp.nx () = q2673 := Option.some.inj hb2671
            subst hb2671
            exact ⟨G2674, (e2685.trans (Evl.Ex.refl _)), (), (some v2683), (u2670), w2713, e2676, rfl, hm2672⟩
        · rintro σ' G2714 H2717 e2718 ⟨s2668, u2669, u2670, w2715, e2716, rfl, hm2672⟩
          have hm2672 := forL_end hm2672
          subst hm2672
          have hb2641 := elimL hb2641
          have h2720 := Rep.mono _ e2716 h2656
          have h2721 := Rep.mono _ e2716 h2657
          have h2722 := Rep.mono _ e2716 h2658
          have h2723 := Rep.mono _ e2716 h2659
          have h2724 := Rep.mono _ e2716 h2660
          have h2725 := Rep.mono _ e2716 h2661
          have h2726 := Rep.mono _ e2716 h2662
          have h2727 := Rep.mono _ e2716 r2654
          refine x_next ?_
          have hb2641 : Stp.nx () = q2643 := Option.some.inj hb2641
          subst hb2641
          exact ⟨G2714, (e2655.trans e2716), (), (u2669), (some v2653), (u2670), w2715, (e2646.trans e2716), rfl, hm2642⟩
      · rintro σ' G2728 H2731 e2732 ⟨s2637, u2638, u2639, u2640, w2729, e2730, rfl, hm2642⟩
        have hm2642 := forL_end hm2642
        subst hm2642
        have h := elimL h
        have h2734 := Rep.mono _ e2730 h2618
        have h2735 := Rep.mono _ e2730 h2619
        have h2736 := Rep.mono _ e2730 h2620
        have h2737 := Rep.mono _ e2730 h2621
        have h2738 := Rep.mono _ e2730 h2622
        have h2739 := Rep.mono _ e2730 h2623
        have h2740 := Rep.mono _ e2730 h2617
        obtain ⟨a2741, hx2742, h⟩ := bindS h
        have h : a2741 = r := Option.some.inj h
        subst h
        exact x_ret w2729 e_bl hx2742 (fun v9 H9 G9 w9 e9 r9 => k v9 H9 G9 w9.upE r9)
def m__law_evaluated_b1 (size0 : Int) (x2768 : Str) (s2758 : ((List Int) × (List (Str × Int)))) : Option ((List Int) × (List (Str × Int))) :=
  (some size0 >>= fun x2777 => (m__law_draw s2758.1 x2777 >>= fun x2782 => (some x2768 >>= fun k2792 => putMM s2758.2 k2792 x2782.1 >>= fun table_2793 => some ((x2782.2, table_2793)))))
def m__law_evaluated (pot_here0 : (List Int)) (nodes_here0 : (List (Str × (List Int)))) (names_here0 : (List Str)) (size0 : Int) : Option (((List (Str × Int)) × Int) × (List Int)) :=
  (some ([] : (List (Str × Int))) >>= fun table_2743 => (some names_here0 >>= fun xs2753 => forS (m__law_evaluated_b1 size0) xs2753 (pot_here0, table_2743) >>= fun s2758 => (some ([]) >>= fun asks_2810 => (some nodes_here0 >>= fun a2826 => some size0 >>= fun a2828 => m__law_run (fun s9 nm => m__law_look s9 s2758.2 nm) a2826 a2828 asks_2810 >>= fun told_2830 => ((some (2 : Int) >>= fun x2894 => (m__law_draw s2758.1 x2894 >>= fun x2899 => (some (1 : Int) >>= fun x2911 => (some (x2899.1 == x2911) >>= fun x2915 => (bif x2915 then (some size0 >>= fun x2926 => (m__law_draw x2899.2 x2926 >>= fun x2931 => some (x2931.2, x2931.1))) else some (x2899.2, told_2830.1)))))) >>= fun s2890 => (some (told_2830.2, s2890.2) >>= fun a2955 => some (a2955, s2890.1)))))))
theorem sc__law_evaluated : FnScope ["_law_pot_here", "_law_nodes_here", "_law_names_here", "_law_size", "_law_table", "_law_name", "_law_asks", "_law_told"] ["_law_pot_here", "_law_nodes_here", "_law_names_here", "_law_size"] (defScope s__law_evaluated) := ⟨rfl, rfl, rfl, by decide +kernel, rfl, by decide +kernel, by decide +kernel⟩
theorem sc9__law_evaluated : ∀ y ∈ (["_law_asks", "_law_table"] : List Str), (defScope s__law_evaluated).names.lookup y = some NameKind.cell := by decide +kernel
theorem ok__law_evaluated (T : Tx K mg) (Y : ∀ p ∈ tf, LamX.TabB base mg (p.c K).1 (p.c K).2) : Fk P w K mg base CX0 4 "_law_evaluated" ["_law_pot_here", "_law_nodes_here", "_law_names_here", "_law_size"] (PT1 (tb K) (aC (rL (rP rS (rL rI))) (aC (rL rS) (aC rI aN))) rI (rP (rL (rP rS rI)) rI) (fun ys i => m__law_evaluated ys i.1 i.2.1 i.2.2.1)) := by
  obtain ⟨fd__law_draw, G__law_draw, b__law_draw, k__law_draw, g__law_draw⟩ := ok__law_draw (w := w) (base := base) T
  obtain ⟨fd__law_run, G__law_run, b__law_run, k__law_run, g__law_run⟩ := ok__law_run (w := w) (base := base) (n := 2) T
  obtain ⟨fd__law_look, G__law_look, b__law_look, k__law_look, g__law_look⟩ := ok__law_look (w := w) (base := base) T
  obtain ⟨fd, F⟩ := T.def_ 28 rfl
  have nd := sc__law_evaluated.nd
  refine fk_mk T.toTx (x := "_law_evaluated") (T.glo 33 rfl) F (fun _ _ _ _ _ _ us hl => match us, hl with | [_, _, _, _], _ => rfl) (LamF.okC F sc__law_evaluated (fun vs H Q E h => ?_) (fun A outer s H vs Q E hr h => ?_))
  · obtain ⟨G, ⟨l, ⟨nodes_here0, names_here0, size0, ⟨⟩⟩⟩, pot_here0, r, k', ⟨_, _, rfl, rfl, ⟨vnodes_here0, _, rfl, hnodes_here0, vnames_here0, _, rfl, hnames_here0, vsize0, _, rfl, hsize0, rfl⟩⟩, wd, h, k⟩ := h
    rfl
  · obtain ⟨G, ⟨l, ⟨nodes_here0, names_here0, size0, ⟨⟩⟩⟩, pot_here0, r, k', ⟨_, _, rfl, rfl, ⟨vnodes_here0, _, rfl, hnodes_here0, vnames_here0, _, rfl, hnames_here0, vsize0, _, rfl, hsize0, rfl⟩⟩, wd, h, k⟩ := h
    cases hsize0
    have e0 : Evl.Ex G H := wd.ex
    have w0 : Wo G H (l :: List.map (fun c => c.1) (tb K)) G H _ := Wo.startC wd
    have h : m__law_evaluated pot_here0 nodes_here0 names_here0 size0 = some (r, k') := h
    unfold m__law_evaluated at h
    refine ⟨_, PSs.nox (pss_cons (ps_set (i := 4) nd rfl (Or.inr rfl) pe_dnewK) (pss_cons (ps_for PassesOwn.never rfl (pi_list (pv 2)) (pg_name (i := 5) nd rfl (Or.inl rfl)) (pss_cons (ps_dput (hu_of hr) (pv 4) (pv 5) (pe_call G__law_draw (hr.mono (by decide)) rfl g__law_draw k__law_draw b__law_draw .nil pass0 (pa_cons (pv 0) (pa_cons (pv 3) pa_nil))) rfl) pss_nil)) (pss_cons (ps_set (i := 6) nd rfl (Or.inr rfl) (pe_lst pa_nil)) (pss_cons (ps_set (i := 7) nd rfl (Or.inl rfl) (LamF.pe_callLay (CX := CX0) (E := fun _ => E0) G__law_run LamF.cxlay0 @LamF.cxfree0 (hr.mono (by decide)) rfl g__law_run k__law_run b__law_run (fun _ => passAt0) (LamF.celFree_of fun _ _ => rfl) (fun o y hy => o.has y (.inl (sc9__law_evaluated y hy))) (fun y hy z => by have q := sc9__law_evaluated y hy; have z2 : (defScope s__law_evaluated).names.lookup y = some NameKind.local := z; rw [q] at z2; cases z2) (pa_cons (pv 1) (pa_cons (pv 3) (pa_cons (LamF.pe_lam (Y t__law_evaluated (by unfold tf; simp)) rfl rfl (fun o y hy e => o.has y.1 (.inl (sc9__law_evaluated _ (frees_sub2 (fr := ["_law_asks", "_law_table"]) (by decide +kernel) y hy e))))) pa_nil))))) (Evl.pss_cut (ps_if (pt_cmpR op_eq (pe_call G__law_draw (hr.mono (by decide)) rfl g__law_draw k__law_draw b__law_draw .nil pass0 (pa_cons (pv 0) (pa_cons pe_int pa_nil))) pe_int (nomark _)) (pss_cons (ps_set (i := 7) nd rfl (Or.inl rfl) (pe_call G__law_draw (hr.mono (by decide)) rfl g__law_draw k__law_draw b__law_draw .nil pass0 (pa_cons (pv 0) (pa_cons (pv 3) pa_nil)))) pss_nil) pss_nil) (pss_cons (ps_ret (pe_tup (pa_cons (pv 6) (pa_cons (pv 7) pa_nil)))) pss_nil)))))), ?_⟩
    obtain ⟨table_2743, hx2744, h⟩ := bindS h
    refine x_setC w0 (ec_dnew (kf := Sum.inr) (R := rI)) hx2744 ?_
    intro p2747 H2745 G2748 n2749 w2746 e2750
    have h2751 := Rep.mono _ e2750 hnodes_here0
    have h2752 := Rep.mono _ e2750 hnames_here0
    obtain ⟨xs2753, hx2754, h⟩ := bindS h
    obtain ⟨t2756, hx2757, h⟩ := bindS h
    refine x_forL w2746 (e_var (R := (rL rS)) (x := names_here0) rfl h2752) hx2754 (fun i G' H' σ' => ∃ s2758 : ((List Int) × (List (Str × Int))), ∃ u2759 : Option V, Wo G H (l :: List.map (fun c => c.1) (tb K)) G' H' ((p2747, cM Sum.inr rI s2758.2) :: (l, cL rI s2758.1) :: (tb K)) ∧ Evl.Ex G2748 G' ∧ σ' = [some (V.ref l), some vnodes_here0, some vnames_here0, some (V.int size0), some (V.ref p2747), u2759, none, none] ∧ forS (m__law_evaluated_b1 size0) (xs2753.drop i) s2758 = some t2756) (fun _ _ _ _ ⟨_, _, w, _⟩ => w.ex) ?_ ?_ ?_
    · intro G' H' w' e'
      exact ⟨(pot_here0, table_2743), (none), w', e', rfl, hx2757⟩
    · rintro G2770 e2771 i2767 x2768 v2772 σ' G2763 H2766 hx2769 e2774 ⟨s2758, u2759, w2764, e2765, rfl, hm2761⟩ r2773
      obtain ⟨q2762, hb2760, hm2761⟩ := forS_at hx2769 hm2761
      have h2775 := Rep.mono _ e2765 h2751
      have h2776 := Rep.mono _ e2765 h2752
      refine g_name ?_
      cases r2773
      unfold m__law_evaluated_b1 at hb2760
      refine x_putO ?_
      refine o_call ?_
      refine o_cons ?_
      refine o_var rfl ?_
      refine o_cons ?_
      obtain ⟨x2777, hx2778, hb2760⟩ := bindS hb2760
      refine c_i w2764 (e_var (R := rI) (x := size0) rfl rfl) hx2778 ?_
      intro H2779 w2780
      refine o_nil ?_
      obtain ⟨x2782, hx2783, hb2760⟩ := bindS hb2760
      refine c_p1 (i := 1) (j := (x2777, ())) w2780 rfl ⟨_, _, rfl, rfl, rfl⟩ hx2783 ?_
      intro u2784 H2785 G2786 w2787 e2788 r2789
      have h2790 := Rep.mono _ e2788 h2775
      have h2791 := Rep.mono _ e2788 h2776
      cases r2789
      have w2787 : Wo G H (l :: List.map (fun c => c.1) (tb K)) G2786 H2785 ((p2747, cM Sum.inr rI s2758.2) :: (l, cL rI x2782.2) :: (tb K)) := w2787
      obtain ⟨k2792, hx2794, hb2760⟩ := bindS hb2760
      obtain ⟨table_2793, hx2795, hb2760⟩ := bindS hb2760
      refine o_putM kyS injS (j := 0) w2787 rfl rfl rfl (e_var (R := rS) (x := x2768) rfl rfl) hx2794 hx2795 ?_
      intro H2796 G2797 w2798 e2799
      have h2800 := Rep.mono _ e2799 h2790
      have h2801 := Rep.mono _ e2799 h2791
      have w2798 : Wo G H (l :: List.map (fun c => c.1) (tb K)) G2797 H2796 ((p2747, cM Sum.inr rI table_2793) :: (l, cL rI x2782.2) :: (tb K)) := w2798
      refine x_next ?_
      have hb2760 : (x2782.2, table_2793) = q2762 := Option.some.inj hb2760
      subst hb2760
      exact ⟨G2797, (e2774.trans (e2788.trans e2799)), (x2782.2, table_2793), (some (V.str x2768)), w2798, ((e2765.trans e2788).trans e2799), rfl, hm2761⟩
    · rintro σ' G2802 H2805 e2806 ⟨s2758, u2759, w2803, e2804, rfl, hm2761⟩
      have hm2761 := forS_end hm2761
      subst hm2761
      have h2808 := Rep.mono _ e2804 h2751
      have h2809 := Rep.mono _ e2804 h2752
      obtain ⟨asks_2810, hx2811, h⟩ := bindS h
      refine x_setL w2803 (el_disp (R := (rP rS rI)) eal_nil) hx2811 ?_
      intro p2814 H2812 G2815 n2816 w2813 e2817
      have h2818 := Rep.mono _ e2817 h2808
      have h2819 := Rep.mono _ e2817 h2809
      obtain ⟨G2820, w2821, e2822, h2823⟩ := w2813.freezeC fzM (i := 1) rfl n2749
      have h2824 := Rep.mono _ e2822 h2818
      have h2825 := Rep.mono _ e2822 h2819
      have w2821 : Wo G H (l :: List.map (fun c => c.1) (tb K)) G2820 H2812 ((p2814, cL (rP rS rI) asks_2810) :: (l, cL rI s2758.1) :: (tb K)) := w2821
      obtain ⟨a2826, hx2827, h⟩ := bindS h
      obtain ⟨a2828, hx2829, h⟩ := bindS h
      obtain ⟨told_2830, hx2831, h⟩ := bindS h
      refine x_askcall (ta := (tCons _ (tCons _ tNil))) (A := (aC (rL (rP rS (rL rI))) (aC rI aN))) (fr := ["_law_asks", "_law_table"]) (us := [(V.ref p2814), (.ref p2747)]) w2821 e0 (j := 0) rfl (j2 := 2) rfl (ea_cons (Sim.E.is (e_var (R := (rL (rP rS (rL rI)))) (x := nodes_here0) rfl h2824) hx2827) (ea_cons (Sim.E.is (e_var (R := rI) (x := size0) rfl rfl) hx2829) ea_nil)) (i := (a2826, a2828, ())) rfl (fun ys' => DnAll.at_ ⟨dnC_L, dnC_L, dnC_T, trivial⟩) (fun _ => rfl) (fun _ => rfl) (fun _ => rfl) (frees_in (by kernel_rfl)) (frees_sub (by kernel_rfl)) rfl (FrAt.at_ ⟨⟨6, rfl, rfl, Or.inr (Or.inl rfl)⟩, ⟨4, rfl, rfl, Or.inr (Or.inl rfl)⟩, trivial⟩) (fun f c' G' e1 cl => askP_p1 (ws := fun vs => V.ref p2814 :: .ref p2747 :: vs) (wr := fun nm => [.ref p2747, .str nm]) (i := fun nm => (s2758.2, nm, ())) (.inl ⟨_, cl.at_⟩) (LamF.run_cloC (N := ["_law_name", "_law_asks", "_law_table"]) (ps := ["_law_name"]) (js := [1, 2, 0]) LamF.cxlay0 LamF.ncxP0 (NdefX.nscope_by (by kernel_rfl)) rfl (fun _ _ us hl => match us, hl with | [_], _ => rfl) G__law_look b__law_look g__law_look k__law_look rfl (fun _ _ _ _ _ => (pa_cons (pv 1 rfl (by first | exact Or.inl rfl | exact Or.inr (Or.inl rfl) | exact Or.inr (Or.inr rfl))) (pa_cons (pv 2 rfl (by first | exact Or.inl rfl | exact Or.inr (Or.inl rfl) | exact Or.inr (Or.inr rfl))) (pa_cons (pv 0 rfl (by first | exact Or.inl rfl | exact Or.inr (Or.inl rfl) | exact Or.inr (Or.inr rfl))) pa_nil)))) rfl (fun _ => rfl) (fun _ => rfl) cl (fun vs hl => match vs, hl with | [_], _ => (.cons rfl (.cons rfl (.cons rfl .nil))))) (fun _ => rfl) (fun nm => ⟨_, _, rfl, Rep.mono _ e1 h2823, _, _, rfl, rfl, rfl⟩)) hx2831 ?_
      intro v2832 H2833 G2834 w2835 e2836 r2837
      have h2838 := Rep.mono _ e2836 h2824
      have h2839 := Rep.mono _ e2836 h2825
      have h2840 := Rep.mono _ e2836 h2823
      cases r2837
      have w2835 : Wo G H (l :: List.map (fun c => c.1) (tb K)) G2834 H2833 ((p2814, cL (rP rS rI) told_2830.2) :: (l, cL rI s2758.1) :: (tb K)) := w2835
      obtain ⟨s2890, hx2891, h⟩ := bindS h
      refine o_cut (fun σ' H' => ∃ G' : Hp, Wo G H (l :: List.map (fun c => c.1) (tb K)) G' H' ((p2814, cL (rP rS rI) told_2830.2) :: (l, cL rI s2890.1) :: (tb K)) ∧ Evl.Ex G2834 G' ∧ σ' = [some (V.ref l), some vnodes_here0, some vnames_here0, some (V.int size0), some (V.ref p2747), u2759, some (V.ref p2814), some (V.int s2890.2)]) ?_ ?_
      · refine o_if ?_
        refine o_T ?_
        refine o_op ?_
        refine o_call ?_
        refine o_cons ?_
        refine o_var rfl ?_
        refine o_cons ?_
        obtain ⟨x2894, hx2895, hx2891⟩ := bindS hx2891
        refine c_i w2835 e_int hx2895 ?_
        intro H2896 w2897
        refine o_nil ?_
        obtain ⟨x2899, hx2900, hx2891⟩ := bindS hx2891
        refine c_p1 (i := 1) (j := (x2894, ())) w2897 rfl ⟨_, _, rfl, rfl, rfl⟩ hx2900 ?_
        intro u2901 H2902 G2903 w2904 e2905 r2906
        have h2907 := Rep.mono _ e2905 h2838
        have h2908 := Rep.mono _ e2905 h2839
        have h2909 := Rep.mono _ e2905 h2840
        cases r2906
        have w2904 : Wo G H (l :: List.map (fun c => c.1) (tb K)) G2903 H2902 ((p2814, cL (rP rS rI) told_2830.2) :: (l, cL rI x2899.2) :: (tb K)) := w2904
        obtain ⟨x2911, hx2912, hx2891⟩ := bindS hx2891
        refine c_i w2904 e_int hx2912 ?_
        intro H2913 w2914
        obtain ⟨x2915, hx2916, hx2891⟩ := bindS hx2891
        refine c_rr rr_eqI w2914 rfl rfl hx2916 ?_
        intro u2917 H2918 G2919 w2920 e2921 r2922
        have h2923 := Rep.mono _ e2921 h2907
        have h2924 := Rep.mono _ e2921 h2908
        have h2925 := Rep.mono _ e2921 h2909
        cases r2922
        refine ⟨_, rfl, ite_b ?_ ?_⟩
        · intro hb2942
          rw [hb2942] at hx2891
          have hx2891 := bifT hx2891
          refine x_setO ?_
          refine o_call ?_
          refine o_cons ?_
          refine o_var rfl ?_
          refine o_cons ?_
          obtain ⟨x2926, hx2927, hx2891⟩ := bindS hx2891
          refine c_i w2920 (e_var (R := rI) (x := size0) rfl rfl) hx2927 ?_
          intro H2928 w2929
          refine o_nil ?_
          obtain ⟨x2931, hx2932, hx2891⟩ := bindS hx2891
          refine c_p1 (i := 1) (j := (x2926, ())) w2929 rfl ⟨_, _, rfl, rfl, rfl⟩ hx2932 ?_
          intro u2933 H2934 G2935 w2936 e2937 r2938
          have h2939 := Rep.mono _ e2937 h2923
          have h2940 := Rep.mono _ e2937 h2924
          have h2941 := Rep.mono _ e2937 h2925
          cases r2938
          have w2936 : Wo G H (l :: List.map (fun c => c.1) (tb K)) G2935 H2934 ((p2814, cL (rP rS rI) told_2830.2) :: (l, cL rI x2931.2) :: (tb K)) := w2936
          refine x_next ?_
          have hx2891 : (x2931.2, x2931.1) = s2890 := Option.some.inj hx2891
          subst hx2891
          exact ⟨G2935, w2936, ((e2905.trans e2921).trans e2937), rfl⟩
        · intro hb2942
          rw [hb2942] at hx2891
          have hx2891 := bifF hx2891
          refine x_next ?_
          have hx2891 : (x2899.2, told_2830.1) = s2890 := Option.some.inj hx2891
          subst hx2891
          exact ⟨G2919, w2920, (e2905.trans e2921), rfl⟩
      · rintro σ' H2944 ⟨G2943, w2893, e2892, rfl⟩
        have h2945 := Rep.mono _ e2892 h2838
        have h2946 := Rep.mono _ e2892 h2839
        have h2947 := Rep.mono _ e2892 h2840
        obtain ⟨G2948, w2949, e2950, h2951⟩ := w2893.freezeAt (i := 0) rfl n2816
        have h2952 := Rep.mono _ e2950 h2945
        have h2953 := Rep.mono _ e2950 h2946
        have h2954 := Rep.mono _ e2950 h2947
        have w2949 : Wo G H (l :: List.map (fun c => c.1) (tb K)) G2948 H2944 ((l, cL rI s2890.1) :: (tb K)) := w2949
        obtain ⟨a2955, hx2956, h⟩ := bindS h
        obtain ⟨h8, h9⟩ : a2955 = r ∧ s2890.1 = k' := Prod.mk.inj (Option.some.inj h)
        subst h8
        subst h9
        exact x_ret w2949 (e_pair (e_var (R := (rL (rP rS rI))) (x := told_2830.2) rfl h2951) (e_var (R := rI) (x := s2890.2) rfl rfl)) hx2956 (fun v9 H9 G9 w9 e9 r9 => k v9 H9 G9 w9.f (selJ_wd (js := [0, 1]) w9.w (by decide) ⟨rfl, rfl, trivial⟩) r9)
def m_law (script0 : (List Int)) : Option Bool :=
  (m__law_pot script0 >>= fun pot_here_2957 => (some (6 : Int) >>= fun x2966 => (m__law_masks pot_here_2957 x2966 >>= fun x2971 => (some (x2971.1.length : Int) >>= fun size_2985 => ((m__law_pairs x2971.1 >>= fun t2989 => m_Order___init__ size_2985 t2989) >>= fun order_2990 => (some (1 : Int) >>= fun x3000 => (atI ([(1 : Int), (4 : Int), (4 : Int), (3 : Int), (2 : Int), (2 : Int), (1 : Int)]) size_2985 >>= fun x3005 => (m__law_draw x2971.2 x3005 >>= fun x3010 => (some (x3000 + x3010.1) >>= fun x3021 => (m__law_names x3010.2 x3021 >>= fun x3033 => (some x3033.1 >>= fun x3051 => (some size_2985 >>= fun x3064 => (m__law_nodes x3033.2 x3051 x3064 >>= fun x3069 => (some x3069.1 >>= fun x3090 => (some x3033.1 >>= fun x3104 => (some size_2985 >>= fun x3119 => (m__law_evaluated x3069.2 x3090 x3104 x3119 >>= fun x3124 => (some x3069.1 >>= fun x3139 => (some x3033.1 >>= fun x3154 => (some size_2985 >>= fun x3170 => (m__law_evaluated x3124.2 x3139 x3154 x3170 >>= fun x3175 => (some (none : (Option Str)) >>= fun due_3191 => (((orO (m__law_parted x2971.1 x3033.1 x3124.1 x3175.1) (m__law_parted x2971.1 x3033.1 x3175.1 x3124.1)) >>= fun b3206 => bif b3206 then (some (some ("values" : Str)) >>= fun due_3233 => some due_3233) else some due_3191) >>= fun s3223 => ((atI x3033.1 (0 : Int) >>= fun t3260 => m_Record___init__ t3260 x3124.1.1 x3124.1.2) >>= fun one_3261 => ((atI x3033.1 (0 : Int) >>= fun t3277 => m_Record___init__ t3277 x3175.1.1 x3175.1.2) >>= fun two_3278 => ((andO ((m_clash one_3261 two_3278 order_2990 >>= fun t3296 => some (decide (t3296 = s3223)))) ((m_clash two_3278 one_3261 order_2990 >>= fun t3297 => some (decide (t3297 = s3223))))) >>= fun a3298 => some a3298))))))))))))))))))))))))))
theorem sc_law : FnScope ["_law_script", "_law_pot_here", "_law_masks_here", "_law_size", "_law_order", "_law_names_here", "_law_nodes_here", "_law_first", "_law_second", "_law_due", "_law_one", "_law_two"] ["_law_script"] (defScope s_law) := ⟨rfl, rfl, rfl, by decide +kernel, rfl, by decide +kernel, by decide +kernel⟩
theorem ok_law (T : Tx K mg) : ∃ fd, FunD K "law" "law" (defArgs s_law) (defBody s_law) (defScope s_law) [] [] (He.ga K "law") fd ∧ ∀ base : Heap, (∀ p ∈ tf, LamX.TabB base mg (p.c K).1 (p.c K).2) → FnOk P w K mg base CX0 5 (He.ga K "law") fd ["_law_script"] (PTm (tb K) (aC (rScr K) aN) rB (fun i => m_law i.1)) := by
  obtain ⟨fd, F⟩ := T.def_ 29 rfl
  refine ⟨fd, F, fun base Y => ?_⟩
  obtain ⟨fd__law_pot, G__law_pot, b__law_pot, k__law_pot, g__law_pot⟩ := ok__law_pot (w := w) (base := base) T
  obtain ⟨fd__law_masks, G__law_masks, b__law_masks, k__law_masks, g__law_masks⟩ := ok__law_masks (w := w) (base := base) T
  obtain ⟨fd_Order___init__, G_Order___init__, b_Order___init__⟩ := ok_Order___init__ (w := w) (base := base) T
  obtain ⟨fd__law_pairs, G__law_pairs, b__law_pairs, k__law_pairs, g__law_pairs⟩ := ok__law_pairs (w := w) (base := base) T
  obtain ⟨fd__law_names, G__law_names, b__law_names, k__law_names, g__law_names⟩ := ok__law_names (w := w) (base := base) T
  obtain ⟨fd__law_draw, G__law_draw, b__law_draw, k__law_draw, g__law_draw⟩ := ok__law_draw (w := w) (base := base) T
  obtain ⟨fd__law_nodes, G__law_nodes, b__law_nodes, k__law_nodes, g__law_nodes⟩ := ok__law_nodes (w := w) (base := base) T
  obtain ⟨fd__law_evaluated, G__law_evaluated, b__law_evaluated, k__law_evaluated, g__law_evaluated⟩ := ok__law_evaluated (w := w) (base := base) T Y
  obtain ⟨fd__law_parted, G__law_parted, b__law_parted, k__law_parted, g__law_parted⟩ := ok__law_parted (w := w) (base := base) T
  obtain ⟨fd_Record___init__, G_Record___init__, b_Record___init__⟩ := ok_Record___init__ (w := w) (base := base) T
  obtain ⟨fd_clash, G_clash, b_clash, k_clash, g_clash⟩ := ok_clash (w := w) (base := base) T
  have nd := sc_law.nd
  refine (F.ok sc_law (fun vs H Q E h => ?_) (fun cdv A outer s H vs Q E hr h => ?_))
  · obtain ⟨G, ⟨script0, ⟨⟩⟩, u0, r, u1, ⟨vscript0, _, rfl, hscript0, rfl⟩, wd, h, k⟩ := h
    rfl
  · obtain ⟨G, ⟨script0, ⟨⟩⟩, u0, r, u1, ⟨vscript0, _, rfl, hscript0, rfl⟩, wd, h, k⟩ := h
    have e0 : Evl.Ex G H := wd.ex
    have w0 : Wo G H (List.map (fun c => c.1) (tb K)) G H _ := Wo.startC wd
    have h : m_law script0 = some r := uM_of h
    unfold m_law at h
    refine ⟨_, PSs.nox (pss_cons (ps_set (i := 1) nd rfl (Or.inl rfl) (pe_call G__law_pot (hr.mono (by decide)) rfl g__law_pot k__law_pot b__law_pot .nil pass0 (pa_cons (pv 0) pa_nil))) (pss_cons (ps_set (i := 2) nd rfl (Or.inl rfl) (pe_call G__law_masks (hr.mono (by decide)) rfl g__law_masks k__law_masks b__law_masks .nil pass0 (pa_cons (pv 1) (pa_cons pe_int pa_nil)))) (pss_cons (ps_set (i := 3) nd rfl (Or.inl rfl) (pe_callB (r := rLn K) call_len_seq (by rfl) (fr_len T) (by decide +kernel) (pa_cons (pv 2) pa_nil))) (pss_cons (ps_set (i := 4) nd rfl (Or.inl rfl) (pe_make (T.mkr 57 rfl) G_Order___init__ (hr.mono (by decide)) rfl (T.glo 21 rfl) b_Order___init__ .nil pass0 (pa_cons (pv 3) (pa_cons (pe_call G__law_pairs (hr.mono (by decide)) rfl g__law_pairs k__law_pairs b__law_pairs .nil pass0 (pa_cons (pv 2) pa_nil)) pa_nil)))) (pss_cons (ps_set (i := 5) nd rfl (Or.inl rfl) (pe_call G__law_names (hr.mono (by decide)) rfl g__law_names k__law_names b__law_names .nil pass0 (pa_cons (pv 1) (pa_cons (pe_op op_add pe_int (pe_call G__law_draw (hr.mono (by decide)) rfl g__law_draw k__law_draw b__law_draw .nil pass0 (pa_cons (pv 1) (pa_cons (pe_ix (r := rIxL K) ix_list (pe_lst (pa_cons pe_int (pa_cons pe_int (pa_cons pe_int (pa_cons pe_int (pa_cons pe_int (pa_cons pe_int (pa_cons pe_int pa_nil)))))))) (pv 3) (fun _ _ => rfl)) pa_nil)))) pa_nil)))) (pss_cons (ps_set (i := 6) nd rfl (Or.inl rfl) (pe_call G__law_nodes (hr.mono (by decide)) rfl g__law_nodes k__law_nodes b__law_nodes .nil pass0 (pa_cons (pv 1) (pa_cons (pv 5) (pa_cons (pv 3) pa_nil))))) (pss_cons (ps_set (i := 7) nd rfl (Or.inl rfl) (pe_call G__law_evaluated (hr.mono (by decide)) rfl g__law_evaluated k__law_evaluated b__law_evaluated .nil pass0 (pa_cons (pv 1) (pa_cons (pv 6) (pa_cons (pv 5) (pa_cons (pv 3) pa_nil)))))) (pss_cons (ps_set (i := 8) nd rfl (Or.inl rfl) (pe_call G__law_evaluated (hr.mono (by decide)) rfl g__law_evaluated k__law_evaluated b__law_evaluated .nil pass0 (pa_cons (pv 1) (pa_cons (pv 6) (pa_cons (pv 5) (pa_cons (pv 3) pa_nil)))))) (pss_cons (ps_set (i := 9) nd rfl (Or.inl rfl) pe_non) (Evl.pss_cut (ps_if (PW.pt (pw_or (pt_val (pe_call G__law_parted (hr.mono (by decide)) rfl g__law_parted k__law_parted b__law_parted .nil pass0 (pa_cons (pv 2) (pa_cons (pv 5) (pa_cons (pv 7) (pa_cons (pv 8) pa_nil)))))) (pw_or1 (pt_val (pe_call G__law_parted (hr.mono (by decide)) rfl g__law_parted k__law_parted b__law_parted .nil pass0 (pa_cons (pv 2) (pa_cons (pv 5) (pa_cons (pv 8) (pa_cons (pv 7) pa_nil))))))))) (pss_cons (ps_set (i := 9) nd rfl (Or.inl rfl) pe_str) pss_nil) pss_nil) (pss_cons (ps_set (i := 10) nd rfl (Or.inl rfl) (pe_make (T.mkr 58 rfl) G_Record___init__ (hr.mono (by decide)) rfl (T.glo 8 rfl) b_Record___init__ .nil pass0 (pa_cons (pe_ix (r := rIxL K) ix_list (pv 5) pe_int (fun _ _ => rfl)) (pa_cons (pe_ix (r := rIxT K) ix_tup (pv 7) pe_int (fun _ _ => rfl)) (pa_cons (pe_ix (r := rIxT K) ix_tup (pv 7) pe_int (fun _ _ => rfl)) pa_nil))))) (pss_cons (ps_set (i := 11) nd rfl (Or.inl rfl) (pe_make (T.mkr 58 rfl) G_Record___init__ (hr.mono (by decide)) rfl (T.glo 8 rfl) b_Record___init__ .nil pass0 (pa_cons (pe_ix (r := rIxL K) ix_list (pv 5) pe_int (fun _ _ => rfl)) (pa_cons (pe_ix (r := rIxT K) ix_tup (pv 8) pe_int (fun _ _ => rfl)) (pa_cons (pe_ix (r := rIxT K) ix_tup (pv 8) pe_int (fun _ _ => rfl)) pa_nil))))) (pss_cons (ps_ret (pe_and (pe_cmpR (r := rEqP K) (op_eqP hr.units) (pe_call G_clash (hr.mono (by decide)) rfl g_clash k_clash b_clash .nil pass0 (pa_cons (pv 10) (pa_cons (pv 11) (pa_cons (pv 4) pa_nil)))) (pv 9) (nomark _)) (pe_one (pe_cmpR (r := rEqP K) (op_eqP hr.units) (pe_call G_clash (hr.mono (by decide)) rfl g_clash k_clash b_clash .nil pass0 (pa_cons (pv 11) (pa_cons (pv 10) (pa_cons (pv 4) pa_nil)))) (pv 9) (nomark _))))) pss_nil))))))))))))), ?_⟩
    obtain ⟨pot_here_2957, hx2958, h⟩ := bindS h
    refine x_setL w0 (el_call (ea_cons (e_var (R := (rScr K)) (x := script0) rfl hscript0) ea_nil)) (by first | (simp only [be1, bs1, ba1] at hx2958 ⊢; exact hx2958) | exact hx2958) ?_
    intro p2961 H2959 G2962 n2963 w2960 e2964
    have h2965 := Rep.mono _ e2964 hscript0
    refine x_setO ?_
    refine o_call ?_
    refine o_cons ?_
    refine o_var rfl ?_
    refine o_cons ?_
    obtain ⟨x2966, hx2967, h⟩ := bindS h
    refine c_i w2960 e_int hx2967 ?_
    intro H2968 w2969
    refine o_nil ?_
    obtain ⟨x2971, hx2972, h⟩ := bindS h
    refine c_p1l (i := 0) (j := (x2966, ())) w2969 rfl ⟨_, _, rfl, rfl, rfl⟩ hx2972 ?_
    intro p2975 H2973 G2976 n2977 w2974 e2978
    have h2979 := Rep.mono _ e2978 h2965
    have w2974 : Wo G H (List.map (fun c => c.1) (tb K)) G2976 H2973 ((p2975, cL rI x2971.1) :: (p2961, cL rI x2971.2) :: (tb K)) := w2974
    obtain ⟨G2980, w2981, e2982, h2983⟩ := w2974.freezeAt (i := 0) rfl n2977
    have h2984 := Rep.mono _ e2982 h2979
    have w2981 : Wo G H (List.map (fun c => c.1) (tb K)) G2980 H2973 ((p2961, cL rI x2971.2) :: (tb K)) := w2981
    obtain ⟨size_2985, hx2986, h⟩ := bindS h
    refine x_setI w2981 (e_cb rc_lenL (ea_cons (e_var (R := (rL rI)) (x := x2971.1) rfl h2983) ea_nil)) hx2986 ?_
    intro H2987 w2988
    obtain ⟨order_2990, hx2991, h⟩ := bindS h
    refine x_set w2988 (e_make (ea_cons (e_var (R := rI) (x := size_2985) rfl rfl) (ea_cons (EL.e (el_call (ea_cons (e_var (R := (rL rI)) (x := x2971.1) rfl h2983) ea_nil))) ea_nil))) (by first | (simp only [be1, bs1, ba1] at hx2991 ⊢; exact hx2991) | exact hx2991) ?_
    intro v2994 H2992 G2995 w2993 e2996 h2997
    have h2998 := Rep.mono _ e2996 h2984
    have h2999 := Rep.mono _ e2996 h2983
    refine x_setO ?_
    refine o_call ?_
    refine o_cons ?_
    refine o_var rfl ?_
    refine o_cons ?_
    refine o_op ?_
    obtain ⟨x3000, hx3001, h⟩ := bindS h
    refine c_i w2993 e_int hx3001 ?_
    intro H3002 w3003
    refine o_call ?_
    refine o_cons ?_
    refine o_var rfl ?_
    refine o_cons ?_
    obtain ⟨x3005, hx3006, h⟩ := bindS h
    refine c_i w3003 (e_op rr_ixL (EL.e (el_disp (eal_cons e_int (eal_cons e_int (eal_cons e_int (eal_cons e_int (eal_cons e_int (eal_cons e_int (eal_cons e_int eal_nil))))))))) (e_var (R := rI) (x := size_2985) rfl rfl)) (by first | (simp only [be1, bs1, ba1] at hx3006 ⊢; exact hx3006) | exact hx3006) ?_
    intro H3007 w3008
    refine o_nil ?_
    obtain ⟨x3010, hx3011, h⟩ := bindS h
    refine c_p1 (i := 0) (j := (x3005, ())) w3008 rfl ⟨_, _, rfl, rfl, rfl⟩ hx3011 ?_
    intro u3012 H3013 G3014 w3015 e3016 r3017
    have h3018 := Rep.mono _ e3016 h2998
    have h3019 := Rep.mono _ e3016 h2999
    have h3020 := Rep.mono _ e3016 h2997
    cases r3017
    have w3015 : Wo G H (List.map (fun c => c.1) (tb K)) G3014 H3013 ((p2961, cL rI x3010.2) :: (tb K)) := w3015
    obtain ⟨x3021, hx3022, h⟩ := bindS h
    refine c_rr rr_add w3015 rfl rfl hx3022 ?_
    intro u3023 H3024 G3025 w3026 e3027 r3028
    have h3029 := Rep.mono _ e3027 h3018
    have h3030 := Rep.mono _ e3027 h3019
    have h3031 := Rep.mono _ e3027 h3020
    cases r3028
    refine o_nil ?_
    obtain ⟨x3033, hx3034, h⟩ := bindS h
    refine c_p1l (i := 0) (j := (x3021, ())) w3026 rfl ⟨_, _, rfl, rfl, rfl⟩ hx3034 ?_
    intro p3037 H3035 G3038 n3039 w3036 e3040
    have h3041 := Rep.mono _ e3040 h3029
    have h3042 := Rep.mono _ e3040 h3030
    have h3043 := Rep.mono _ e3040 h3031
    have w3036 : Wo G H (List.map (fun c => c.1) (tb K)) G3038 H3035 ((p3037, cL rS x3033.1) :: (p2961, cL rI x3033.2) :: (tb K)) := w3036
    obtain ⟨G3044, w3045, e3046, h3047⟩ := w3036.freezeAt (i := 0) rfl n3039
    have h3048 := Rep.mono _ e3046 h3041
    have h3049 := Rep.mono _ e3046 h3042
    have h3050 := Rep.mono _ e3046 h3043
    have w3045 : Wo G H (List.map (fun c => c.1) (tb K)) G3044 H3035 ((p2961, cL rI x3033.2) :: (tb K)) := w3045
    refine x_setO ?_
    refine o_call ?_
    refine o_cons ?_
    refine o_var rfl ?_
    refine o_cons ?_
    obtain ⟨x3051, hx3052, h⟩ := bindS h
    refine c_e w3045 (e_var (R := (rL rS)) (x := x3033.1) rfl h3047) hx3052 ?_
    intro v3055 H3053 G3056 w3054 e3057 h3058
    have h3059 := Rep.mono _ e3057 h3048
    have h3060 := Rep.mono _ e3057 h3049
    have h3061 := Rep.mono _ e3057 h3050
    have h3062 := Rep.mono _ e3057 h3047
    refine o_cons ?_
    obtain ⟨x3064, hx3065, h⟩ := bindS h
    refine c_i w3054 (e_var (R := rI) (x := size_2985) rfl rfl) hx3065 ?_
    intro H3066 w3067
    refine o_nil ?_
    obtain ⟨x3069, hx3070, h⟩ := bindS h
    refine c_p1l (i := 0) (j := (x3051, x3064, ())) w3067 rfl ⟨_, _, rfl, h3058, _, _, rfl, rfl, rfl⟩ hx3070 ?_
    intro p3073 H3071 G3074 n3075 w3072 e3076
    have h3077 := Rep.mono _ e3076 h3059
    have h3078 := Rep.mono _ e3076 h3060
    have h3079 := Rep.mono _ e3076 h3061
    have h3080 := Rep.mono _ e3076 h3062
    have h3081 := Rep.mono _ e3076 h3058
    have w3072 : Wo G H (List.map (fun c => c.1) (tb K)) G3074 H3071 ((p3073, cL (rP rS (rL rI)) x3069.1) :: (p2961, cL rI x3069.2) :: (tb K)) := w3072
    obtain ⟨G3082, w3083, e3084, h3085⟩ := w3072.freezeAt (i := 0) rfl n3075
    have h3086 := Rep.mono _ e3084 h3077
    have h3087 := Rep.mono _ e3084 h3078
    have h3088 := Rep.mono _ e3084 h3079
    have h3089 := Rep.mono _ e3084 h3080
    have w3083 : Wo G H (List.map (fun c => c.1) (tb K)) G3082 H3071 ((p2961, cL rI x3069.2) :: (tb K)) := w3083
    refine x_setO ?_
    refine o_call ?_
    refine o_cons ?_
    refine o_var rfl ?_
    refine o_cons ?_
    obtain ⟨x3090, hx3091, h⟩ := bindS h
    refine c_e w3083 (e_var (R := (rL (rP rS (rL rI)))) (x := x3069.1) rfl h3085) hx3091 ?_
    intro v3094 H3092 G3095 w3093 e3096 h3097
    have h3098 := Rep.mono _ e3096 h3086
    have h3099 := Rep.mono _ e3096 h3087
    have h3100 := Rep.mono _ e3096 h3088
    have h3101 := Rep.mono _ e3096 h3089
    have h3102 := Rep.mono _ e3096 h3085
    refine o_cons ?_
    obtain ⟨x3104, hx3105, h⟩ := bindS h
    refine c_e w3093 (e_var (R := (rL rS)) (x := x3033.1) rfl h3101) hx3105 ?_
    intro v3108 H3106 G3109 w3107 e3110 h3111
    have h3112 := Rep.mono _ e3110 h3098
    have h3113 := Rep.mono _ e3110 h3099
    have h3114 := Rep.mono _ e3110 h3100
    have h3115 := Rep.mono _ e3110 h3101
    have h3116 := Rep.mono _ e3110 h3102
    have h3117 := Rep.mono _ e3110 h3097
    refine o_cons ?_
    obtain ⟨x3119, hx3120, h⟩ := bindS h
    refine c_i w3107 (e_var (R := rI) (x := size_2985) rfl rfl) hx3120 ?_
    intro H3121 w3122
    refine o_nil ?_
    obtain ⟨x3124, hx3125, h⟩ := bindS h
    refine c_pmJ [0, 1] (i := (p2961, (x3090, x3104, x3119, ()))) (s := x3069.2) (s' := x3124.2) w3122 ⟨rfl, rfl, trivial⟩ ⟨_, _, rfl, rfl, ⟨_, _, rfl, h3117, _, _, rfl, h3111, _, _, rfl, rfl, rfl⟩⟩ hx3125 rfl (fun u3126 H3127 G3128 w3129 e3130 r3131 => ?_)
    have h3132 := Rep.mono _ e3130 h3112
    have h3133 := Rep.mono _ e3130 h3113
    have h3134 := Rep.mono _ e3130 h3114
    have h3135 := Rep.mono _ e3130 h3115
    have h3136 := Rep.mono _ e3130 h3116
    have h3137 := Rep.mono _ e3130 h3117
    have h3138 := Rep.mono _ e3130 h3111
    have w3129 : Wo G H (List.map (fun c => c.1) (tb K)) G3128 H3127 ((p2961, cL rI x3124.2) :: (tb K)) := w3129
    refine x_setO ?_
    refine o_call ?_
    refine o_cons ?_
    refine o_var rfl ?_
    refine o_cons ?_
    obtain ⟨x3139, hx3140, h⟩ := bindS h
    refine c_e w3129 (e_var (R := (rL (rP rS (rL rI)))) (x := x3069.1) rfl h3136) hx3140 ?_
    intro v3143 H3141 G3144 w3142 e3145 h3146
    have h3147 := Rep.mono _ e3145 h3132
    have h3148 := Rep.mono _ e3145 h3133
    have h3149 := Rep.mono _ e3145 h3134
    have h3150 := Rep.mono _ e3145 h3135
    have h3151 := Rep.mono _ e3145 h3136
    have h3152 := Rep.mono _ e3145 r3131
    refine o_cons ?_
    obtain ⟨x3154, hx3155, h⟩ := bindS h
    refine c_e w3142 (e_var (R := (rL rS)) (x := x3033.1) rfl h3150) hx3155 ?_
    intro v3158 H3156 G3159 w3157 e3160 h3161
    have h3162 := Rep.mono _ e3160 h3147
    have h3163 := Rep.mono _ e3160 h3148
    have h3164 := Rep.mono _ e3160 h3149
    have h3165 := Rep.mono _ e3160 h3150
    have h3166 := Rep.mono _ e3160 h3151
    have h3167 := Rep.mono _ e3160 h3152
    have h3168 := Rep.mono _ e3160 h3146
    refine o_cons ?_
    obtain ⟨x3170, hx3171, h⟩ := bindS h
    refine c_i w3157 (e_var (R := rI) (x := size_2985) rfl rfl) hx3171 ?_
    intro H3172 w3173
    refine o_nil ?_
    obtain ⟨x3175, hx3176, h⟩ := bindS h
    refine c_pmJ [0, 1] (i := (p2961, (x3139, x3154, x3170, ()))) (s := x3124.2) (s' := x3175.2) w3173 ⟨rfl, rfl, trivial⟩ ⟨_, _, rfl, rfl, ⟨_, _, rfl, h3168, _, _, rfl, h3161, _, _, rfl, rfl, rfl⟩⟩ hx3176 rfl (fun u3177 H3178 G3179 w3180 e3181 r3182 => ?_)
    have h3183 := Rep.mono _ e3181 h3162
    have h3184 := Rep.mono _ e3181 h3163
    have h3185 := Rep.mono _ e3181 h3164
    have h3186 := Rep.mono _ e3181 h3165
    have h3187 := Rep.mono _ e3181 h3166
    have h3188 := Rep.mono _ e3181 h3167
    have h3189 := Rep.mono _ e3181 h3168
    have h3190 := Rep.mono _ e3181 h3161
    have w3180 : Wo G H (List.map (fun c => c.1) (tb K)) G3179 H3178 ((p2961, cL rI x3175.2) :: (tb K)) := w3180
    obtain ⟨due_3191, hx3192, h⟩ := bindS h
    refine x_set w3180 (e_none (R := rS)) hx3192 ?_
    intro v3195 H3193 G3196 w3194 e3197 h3198
    have h3199 := Rep.mono _ e3197 h3183
    have h3200 := Rep.mono _ e3197 h3184
    have h3201 := Rep.mono _ e3197 h3185
    have h3202 := Rep.mono _ e3197 h3186
    have h3203 := Rep.mono _ e3197 h3187
    have h3204 := Rep.mono _ e3197 h3188
    have h3205 := Rep.mono _ e3197 r3182
    obtain ⟨s3223, hx3224, h⟩ := bindS h
    refine o_cut (fun σ' H' => ∃ v3225 : V, ∃ G' : Hp, Wo G H (List.map (fun c => c.1) (tb K)) G' H' ((p2961, cL rI x3175.2) :: (tb K)) ∧ Evl.Ex G3196 G' ∧ σ' = [some vscript0, some (V.ref p2961), some (V.ref p2975), some (V.int size_2985), some v2994, some (V.ref p3037), some (V.ref p3073), some u3126, some u3177, some v3225, none, none] ∧ (rO rS).r G' v3225 s3223) ?_ ?_
    · obtain ⟨b3206, hx3230, hx3224⟩ := bindS hx3224
      refine x_if w3194 (et_or (et_B (e_call (ea_cons (e_var (R := (rL rI)) (x := x2971.1) rfl (Rep.mono _ w3194.ex h3200)) (ea_cons (e_var (R := (rL rS)) (x := x3033.1) rfl (Rep.mono _ w3194.ex h3202)) (ea_cons (e_var (R := (rP (rL (rP rS rI)) rI)) (x := x3124.1) rfl (Rep.mono _ w3194.ex h3204)) (ea_cons (e_var (R := (rP (rL (rP rS rI)) rI)) (x := x3175.1) rfl (Rep.mono _ w3194.ex h3205)) ea_nil)))))) (et_B (e_call (ea_cons (e_var (R := (rL rI)) (x := x2971.1) rfl (Rep.mono _ w3194.ex h3200)) (ea_cons (e_var (R := (rL rS)) (x := x3033.1) rfl (Rep.mono _ w3194.ex h3202)) (ea_cons (e_var (R := (rP (rL (rP rS rI)) rI)) (x := x3175.1) rfl (Rep.mono _ w3194.ex h3205)) (ea_cons (e_var (R := (rP (rL (rP rS rI)) rI)) (x := x3124.1) rfl (Rep.mono _ w3194.ex h3204)) ea_nil))))))) (by first | (simp only [be1, bs1, ba1] at hx3230 ⊢; exact hx3230) | exact hx3230) ?_ ?_
      · intro hbb3206 H3231 w3232
        subst hbb3206
        have hx3224 := bifT hx3224
        obtain ⟨due_3233, hx3234, hx3224⟩ := bindS hx3224
        refine x_set w3232 (e_some e_str) hx3234 ?_
        intro v3237 H3235 G3238 w3236 e3239 h3240
        have h3241 := Rep.mono _ e3239 h3199
        have h3242 := Rep.mono _ e3239 h3200
        have h3243 := Rep.mono _ e3239 h3201
        have h3244 := Rep.mono _ e3239 h3202
        have h3245 := Rep.mono _ e3239 h3203
        have h3246 := Rep.mono _ e3239 h3204
        have h3247 := Rep.mono _ e3239 h3205
        have h3248 := Rep.mono _ e3239 h3198
        refine x_next ?_
        have hx3224 : due_3233 = s3223 := Option.some.inj hx3224
        subst hx3224
        exact ⟨v3237, G3238, w3236, e3239, rfl, h3240⟩
      · intro hbb3206 H3249 w3250
        subst hbb3206
        have hx3224 := bifF hx3224
        refine x_next ?_
        have hx3224 : due_3191 = s3223 := Option.some.inj hx3224
        subst hx3224
        exact ⟨v3195, G3196, w3250, (Evl.Ex.refl _), rfl, h3198⟩
    · rintro σ' H3259 ⟨v3225, G3251, w3228, e3227, rfl, h3226⟩
      have h3252 := Rep.mono _ e3227 h3199
      have h3253 := Rep.mono _ e3227 h3200
      have h3254 := Rep.mono _ e3227 h3201
      have h3255 := Rep.mono _ e3227 h3202
      have h3256 := Rep.mono _ e3227 h3203
      have h3257 := Rep.mono _ e3227 h3204
      have h3258 := Rep.mono _ e3227 h3205
      obtain ⟨one_3261, hx3262, h⟩ := bindS h
      refine x_set w3228 (e_makeS (ea_cons (e_op rr_ixL (e_var (R := (rL rS)) (x := x3033.1) rfl h3255) e_int) (ea_cons (e_fst (e_var (R := (rP (rL (rP rS rI)) rI)) (x := x3124.1) rfl h3257)) (ea_cons (e_snd (e_var (R := (rP (rL (rP rS rI)) rI)) (x := x3124.1) rfl h3257)) ea_nil)))) (by first | (simp only [be1, bs1, ba1] at hx3262 ⊢; exact hx3262) | exact hx3262) ?_
      intro v3265 H3263 G3266 w3264 e3267 h3268
      have h3269 := Rep.mono _ e3267 h3252
      have h3270 := Rep.mono _ e3267 h3253
      have h3271 := Rep.mono _ e3267 h3254
      have h3272 := Rep.mono _ e3267 h3255
      have h3273 := Rep.mono _ e3267 h3256
      have h3274 := Rep.mono _ e3267 h3257
      have h3275 := Rep.mono _ e3267 h3258
      have h3276 := Rep.mono _ e3267 h3226
      obtain ⟨two_3278, hx3279, h⟩ := bindS h
      refine x_set w3264 (e_makeS (ea_cons (e_op rr_ixL (e_var (R := (rL rS)) (x := x3033.1) rfl h3272) e_int) (ea_cons (e_fst (e_var (R := (rP (rL (rP rS rI)) rI)) (x := x3175.1) rfl h3275)) (ea_cons (e_snd (e_var (R := (rP (rL (rP rS rI)) rI)) (x := x3175.1) rfl h3275)) ea_nil)))) (by first | (simp only [be1, bs1, ba1] at hx3279 ⊢; exact hx3279) | exact hx3279) ?_
      intro v3282 H3280 G3283 w3281 e3284 h3285
      have h3286 := Rep.mono _ e3284 h3269
      have h3287 := Rep.mono _ e3284 h3270
      have h3288 := Rep.mono _ e3284 h3271
      have h3289 := Rep.mono _ e3284 h3272
      have h3290 := Rep.mono _ e3284 h3273
      have h3291 := Rep.mono _ e3284 h3274
      have h3292 := Rep.mono _ e3284 h3275
      have h3293 := Rep.mono _ e3284 h3276
      have h3294 := Rep.mono _ e3284 h3268
      obtain ⟨a3298, hx3299, h⟩ := bindS h
      have h : a3298 = r := Option.some.inj h
      subst h
      exact x_ret w3281 (e_andV (e_op (rr_eqD (dtO dtS) (by decide)) (e_call (ea_cons (e_var (R := (r_Record K)) (x := one_3261) rfl h3294) (ea_cons (e_var (R := (r_Record K)) (x := two_3278) rfl h3285) (ea_cons (e_var (R := (r_Order K)) (x := order_2990) rfl h3288) ea_nil)))) (e_var (R := (rO rS)) (x := s3223) rfl h3293)) (e_op (rr_eqD (dtO dtS) (by decide)) (e_call (ea_cons (e_var (R := (r_Record K)) (x := two_3278) rfl h3285) (ea_cons (e_var (R := (r_Record K)) (x := one_3261) rfl h3294) (ea_cons (e_var (R := (r_Order K)) (x := order_2990) rfl h3288) ea_nil)))) (e_var (R := (rO rS)) (x := s3223) rfl h3293))) (by first | (simp only [be1, bs1, ba1] at hx3299 ⊢; exact hx3299) | exact hx3299) (fun v9 H9 G9 w9 e9 r9 => k v9 H9 G9 w9.f (selJ_wd (js := [1]) w9.w (by decide) ⟨rfl, trivial⟩) r9)
end
end My
namespace My
open PySem L2 Sim
section
variable {α β γ σ ρ : Type}
theorem bs {a : α} {f : α → Option β} : Option.bind (some a) f = f a := Eq.trans (Option.bind_some a f) (Eq.refl _)
def tab (n : Nat) (f : Nat → α) : List α := (List.range n).map f
theorem tab_len {n : Nat} {f : Nat → α} : (tab n f).length = n := by simp [tab]
theorem tab_get {n : Nat} {f : Nat → α} {i : Nat} (h : i < n) : (tab n f)[i]? = some (f i) := by
  simp [tab, List.getElem?_map, List.getElem?_range h]
theorem tab_mem {n : Nat} {f : Nat → α} {x : α} : x ∈ tab n f ↔ ∃ i, i < n ∧ f i = x := by simp [tab]
theorem tab_congr {n : Nat} {f g : Nat → α} (h : ∀ i < n, f i = g i) : tab n f = tab n g :=
  List.map_congr_left fun i hi => h i (List.mem_range.mp hi)
theorem ixN_nat {n i : Nat} (h : i < n) : ixN n (i : Int) = some i := by
  unfold ixN
  rw [if_pos (by omega), if_pos (by omega)]
  rfl
theorem atI_nat {xs : List α} {i : Nat} (h : i < xs.length) : atI xs (i : Int) = some xs[i] := by
  unfold atI
  rw [ixN_nat h]
  exact List.getElem?_eq_getElem h
theorem atI_tab {n : Nat} {f : Nat → α} {i : Nat} (h : i < n) : atI (tab n f) (i : Int) = some (f i) := by
  unfold atI
  rw [ixN_nat (by rw [tab_len]; exact h)]
  exact tab_get h
theorem rngM0 {n : Nat} (h : n ≤ 100000) : rngM 0 (n : Int) = some (tab n fun i => (i : Int)) := by
  unfold rngM
  rw [if_pos (by omega)]
  unfold rng tab
  simp
theorem rngM1 {i n : Nat} (h : n ≤ 100000) (h' : i ≤ 100000) : rngM ((i : Int)) (n : Int) = some (tab (n - i) fun k => ((i + k : Nat) : Int)) := by
  unfold rngM
  rw [if_pos (by omega)]
  unfold rng tab
  have : ((n : Int) - (i : Int)).toNat = n - i := by omega
  rw [this]
  simp
theorem mapO_map {f : β → Option γ} {a : α → β} {g : α → γ} : ∀ {xs : List α}, (∀ x ∈ xs, f (a x) = some (g x)) → mapO f (xs.map a) = some (xs.map g)
  | [], _ => rfl
  | x :: xs, h => by
    show (f (a x) >>= fun y => mapO f (xs.map a) >>= fun ys => some (y :: ys)) = _
    rw [h x (List.mem_cons_self ..), mapO_map (fun y hy => h y (List.mem_cons_of_mem _ hy))]
    rfl
theorem lcM_map {p' : β → Option Bool} {f : β → Option γ} {a : α → β} {p : α → Bool} {g : α → γ} : ∀ {xs : List α}, (∀ x ∈ xs, p' (a x) = some (p x)) → (∀ x ∈ xs, f (a x) = some (g x)) →
    lcM p' f (xs.map a) = some ((xs.filter p).map g)
  | [], _, _ => rfl
  | x :: xs, h, h' => by
    show (p' (a x) >>= fun b => bif b then f (a x) >>= fun y => lcM p' f (xs.map a) >>= fun ys => some (y :: ys) else lcM p' f (xs.map a)) = _
    rw [h x (List.mem_cons_self ..), lcM_map (fun y hy => h y (List.mem_cons_of_mem _ hy)) (fun y hy => h' y (List.mem_cons_of_mem _ hy)), h' x (List.mem_cons_self ..)]
    cases e : p x <;> simp [List.filter_cons, e]
theorem sz_t {n : Nat} (h : n < 100000) : sz n = true := by simp [sz, h]
theorem mapS_tab {n : Nat} {a : Nat → β} {f : β → Option γ} {g : Nat → γ} (hn : n < 100000) (h : ∀ i < n, f (a i) = some (g i)) : mapS f (tab n a) = some (tab n g) := by
  unfold mapS
  rw [tab_len, sz_t hn]
  exact mapO_map fun x hx => h x (List.mem_range.mp hx)
theorem mapS_map {xs : List α} {f : α → Option β} {g : α → β} (hn : xs.length < 100000) (h : ∀ x ∈ xs, f x = some (g x)) : mapS f xs = some (xs.map g) := by
  unfold mapS
  rw [sz_t hn]
  have := mapO_map (f := f) (a := id) (g := g) (xs := xs) h
  rwa [List.map_id] at this
theorem lcS_tab {n : Nat} {a : Nat → β} {p' : β → Option Bool} {f : β → Option γ} {p : Nat → Bool} {g : Nat → γ} (hn : n < 100000) (h : ∀ i < n, p' (a i) = some (p i)) (h' : ∀ i < n, f (a i) = some (g i)) :
    lcS p' f (tab n a) = some (((List.range n).filter p).map g) := by
  unfold lcS
  rw [tab_len, sz_t hn]
  exact lcM_map (fun x hx => h x (List.mem_range.mp hx)) (fun x hx => h' x (List.mem_range.mp hx))
theorem lcS_map {xs : List α} {a : α → β} {p' : β → Option Bool} {f : β → Option γ} {p : α → Bool} {g : α → γ} (hn : xs.length < 100000) (h : ∀ x ∈ xs, p' (a x) = some (p x)) (h' : ∀ x ∈ xs, f (a x) = some (g x)) :
    lcS p' f (xs.map a) = some ((xs.filter p).map g) := by
  unfold lcS
  rw [List.length_map, sz_t hn]
  exact lcM_map h h'
theorem forL_nx {body : α → Unit → Option (Stp Unit ρ)} : ∀ {xs : List α}, (∀ x ∈ xs, body x () = some (.nx ())) → forL body xs () = some (.inl ())
  | [], _ => rfl
  | x :: xs, h => by
    show (body x () >>= stpK (forL body xs)) = _
    rw [h x (List.mem_cons_self ..)]
    exact forL_nx fun y hy => h y (List.mem_cons_of_mem _ hy)
theorem forL_nxT {body : α → Unit → Option (Stp Unit ρ)} {n : Nat} {a : Nat → α} (h : ∀ i < n, body (a i) () = some (.nx ())) : forL body (tab n a) () = some (.inl ()) :=
  forL_nx fun x hx => by obtain ⟨i, hi, rfl⟩ := tab_mem.mp hx; exact h i hi
theorem forL_find {body : β → Unit → Option (Stp Unit ρ)} {a : α → β} {p : α → Bool} {g : α → ρ} : ∀ {xs : List α}, (∀ x ∈ xs, body (a x) () = some (bif p x then .rt (g x) else .nx ())) →
    forL body (xs.map a) () = some (match xs.find? p with | some x => .inr (g x) | none => .inl ())
  | [], _ => rfl
  | x :: xs, h => by
    show (body (a x) () >>= stpK (forL body (xs.map a))) = _
    rw [h x (List.mem_cons_self ..)]
    cases e : p x
    · rw [List.find?_cons, e]
      exact forL_find fun y hy => h y (List.mem_cons_of_mem _ hy)
    · rw [List.find?_cons, e]; rfl
theorem forS_un {body : α → Unit → Option Unit} : ∀ {xs : List α}, (∀ x ∈ xs, body x () = some ()) → forS body xs () = some ()
  | [], _ => rfl
  | x :: xs, h => by
    show (body x () >>= forS body xs) = _
    rw [h x (List.mem_cons_self ..)]
    exact forS_un fun y hy => h y (List.mem_cons_of_mem _ hy)
/-- a loop that keeps something -/
theorem forS_keep {body : α → σ → Option σ} {I : Nat → σ → Prop} : ∀ {xs : List α} {k : Nat} {s : σ}, I k s → (∀ x ∈ xs, ∀ j s, k ≤ j → j < k + xs.length → I j s → ∃ s', body x s = some s' ∧ I (j + 1) s') →
    ∃ s', forS body xs s = some s' ∧ I (k + xs.length) s'
  | [], k, s, h, _ => ⟨s, rfl, h⟩
  | x :: xs, k, s, h, hs => by
    obtain ⟨s1, e1, h1⟩ := hs x (List.mem_cons_self ..) k s (Nat.le_refl _) (by simp) h
    obtain ⟨s2, e2, h2⟩ := forS_keep (xs := xs) (k := k + 1) h1 fun y hy j t hj hj' => hs y (List.mem_cons_of_mem _ hy) j t (by omega) (by simp; omega)
    refine ⟨s2, ?_, ?_⟩
    · show (body x s >>= forS body xs) = _
      rw [e1]; exact e2
    · have : k + (x :: xs).length = k + 1 + xs.length := by simp; omega
      rw [this]; exact h2
/-- a loop whose k-th state is told -/
theorem forS_tab {body : α → σ → Option σ} {a : Nat → α} {S : Nat → σ} {n : Nat} (h : ∀ i < n, body (a i) (S i) = some (S (i + 1))) : forS body (tab n a) (S 0) = some (S n) := by
  suffices h' : ∀ m k, k + m = n → forS body ((List.range' k m).map a) (S k) = some (S n) by
    have := h' n 0 (by omega)
    rw [← List.range_eq_range'] at this
    exact this
  intro m
  induction m with
  | zero => intro k hk; have : k = n := by omega
            subst this; rfl
  | succ m ih =>
    intro k hk
    show (body (a k) (S k) >>= forS body ((List.range' (k + 1) m).map a)) = _
    rw [h k (by omega)]
    exact ih (k + 1) (by omega)
end

abbrev tab2 (n : Nat) (R : Nat → Nat → α) : List (List α) := tab n fun a => tab n fun b => R a b
theorem atI2 {n : Nat} {R : Nat → Nat → α} {a b : Nat} (ha : a < n) (hb : b < n) : (atI (tab2 n R) (a : Int) >>= fun t => atI t (b : Int)) = some (R a b) := by
  rw [atI_tab ha]
  exact atI_tab hb
theorem tab2_congr {n : Nat} {R S : Nat → Nat → α} (h : ∀ a < n, ∀ b < n, R a b = S a b) : tab2 n R = tab2 n S :=
  tab_congr fun a ha => tab_congr fun b hb => h a ha b hb
theorem mul_small {a b : Nat} (ha : a ≤ 12) : mulM (a : Int) (b : Int) = some (((a * b : Nat)) : Int) := by
  unfold mulM
  rw [if_pos (Or.inl (by omega))]
  simp
/-- the pairs lie below n -/
def InR (n : Nat) (ps : List (Int × Int)) : Prop := ∀ p ∈ ps, ∃ a b : Nat, a < n ∧ b < n ∧ p = ((a : Int), (b : Int))
theorem InR.tail {n : Nat} {p} {ps : List (Int × Int)} (h : InR n (p :: ps)) : InR n ps := fun q hq => h q (List.mem_cons_of_mem _ hq)
theorem ix_lt {n a b : Nat} (ha : a < n) (hb : b < n) : a * n + b < n * n := by
  have : (a + 1) * n ≤ n * n := Nat.mul_le_mul_right n ha
  rw [Nat.succ_mul] at this
  omega
theorem ix_inj {n a b c d : Nat} (hb : b < n) (hd : d < n) (h : a * n + b = c * n + d) : a = c ∧ b = d := by
  have e : (a * n + b) / n = (c * n + d) / n := by rw [h]
  have e2 : (a * n + b) % n = (c * n + d) % n := by rw [h]
  rw [Nat.mul_comm a n, Nat.mul_comm c n, Nat.mul_add_div (by omega), Nat.mul_add_div (by omega), Nat.div_eq_of_lt hb, Nat.div_eq_of_lt hd] at e
  rw [Nat.mul_comm a n, Nat.mul_comm c n, Nat.mul_add_mod, Nat.mul_add_mod, Nat.mod_eq_of_lt hb, Nat.mod_eq_of_lt hd] at e2
  exact ⟨by omega, e2⟩
/-! pop -/
section
open PyProof.Rows
theorem ixN_popAt {n k : Nat} (h : k < n) : seqIndex? (k : Int) n = some k := by
  unfold seqIndex?
  have : ¬ ((k : Int) < 0) := by omega
  simp only [this, if_false]
  have h2 : (decide (0 ≤ (k : Int)) && decide ((k : Int) < (n : Int))) = true := by simp; exact h
  rw [if_pos h2]
  rfl
theorem perm_erase {α : Type} : ∀ {xs : List α} {k : Nat} (h : k < xs.length), xs.Perm (xs[k] :: xs.eraseIdx k)
  | x :: xs, 0, _ => .refl _
  | x :: xs, k + 1, h => by
    have h : k < xs.length := by simpa using h
    exact ((perm_erase h).cons x).trans (.swap ..)
/-- a list drawn out in another order -/
theorem popAt_eq {α : Type} {xs : List α} {k : Nat} (h : k < xs.length) (h2 : xs.length < 100000) : popAtM xs (k : Int) = some (xs[k], xs.eraseIdx k) := by
  unfold popAtM
  rw [if_pos (by omega), ixN_popAt h]
  simp only [Option.bind_eq_bind, bs]
  rw [List.getElem?_eq_getElem h]
  rfl
end
end My

namespace My
open PySem L2 Sim
theorem cl_b1 {n : Nat} (hn : n ≤ 12) : ∀ {ps : List (Int × Int)} {s : List Bool} {D : Nat → Nat → Bool}, InR n ps → s.length = n * n → (∀ a < n, ∀ b < n, s[a * n + b]? = some (D a b)) →
    ∃ s', forS (m_closure_b1 (n : Int)) ps s = some s' ∧ s'.length = n * n ∧ ∀ a < n, ∀ b < n, s'[a * n + b]? = some (D a b || decide (((a : Int), (b : Int)) ∈ ps))
  | [], s, D, _, hl, hs => ⟨s, rfl, hl, fun a ha b hb => by simp [hs a ha b hb]⟩
  | p :: ps, s, D, hp, hl, hs => by
    obtain ⟨c, d, hc, hd, rfl⟩ := hp _ (List.mem_cons_self ..)
    have e1 : m_closure_b1 (n : Int) ((c : Int), (d : Int)) s = some (s.set (c * n + d) true) := by
      simp only [m_closure_b1, mul_small (show c ≤ 12 by omega), Option.bind_eq_bind, Option.bind_some]
      rw [show ((c * n : Nat) : Int) + (d : Int) = ((c * n + d : Nat) : Int) by simp]
      unfold setM
      rw [ixN_nat (by rw [hl]; exact ix_lt hc hd)]
      rfl
    obtain ⟨s', e2, h1, h2⟩ := cl_b1 hn (ps := ps) (s := s.set (c * n + d) true) (D := fun a b => D a b || decide (((a : Int), (b : Int)) = ((c : Int), (d : Int)))) hp.tail (by rw [List.length_set]; exact hl) (by
      intro a ha b hb
      rw [List.getElem?_set]
      by_cases e : c * n + d = a * n + b
      · obtain ⟨h1, h2⟩ := ix_inj hd hb e
        subst h1; subst h2
        simp [hl, ix_lt hc hd]
      · rw [if_neg e, hs a ha b hb]
        have : ¬ (((a : Int), (b : Int)) = ((c : Int), (d : Int))) := by
          intro q
          rw [Prod.mk.injEq] at q
          apply e
          rw [show a = c by omega, show b = d by omega]
        simp [this])
    refine ⟨s', ?_, h1, fun a ha b hb => ?_⟩
    · show (m_closure_b1 (n : Int) ((c : Int), (d : Int)) s >>= forS (m_closure_b1 (n : Int)) ps) = _
      rw [e1]; exact e2
    · rw [h2 a ha b hb]
      simp [List.mem_cons, Bool.or_assoc]
def wst (m : Nat) (R : Nat → Nat → Bool) (a b : Nat) : Bool := R a b || (R a m && R m b)
def wsh (R : Nat → Nat → Bool) : Nat → Nat → Nat → Bool
  | 0 => R
  | k + 1 => wst k (wsh R k)
theorem cl_b2 {n m : Nat} {R : Nat → Nat → Bool} (hn : n ≤ 12) (hm : m < n) : m_closure_b2 (n : Int) (m : Int) (tab2 n R) = some (tab2 n (wst m R)) := by
  unfold m_closure_b2
  rw [rngM0 (by omega)]
  simp only [Option.bind_eq_bind, Option.bind_some]
  rw [mapS_tab (g := fun a => tab n fun b => wst m R a b) (by omega)]
  · rfl
  · intro a ha
    rw [mapS_tab (g := fun b => wst m R a b) (by omega)]
    intro b hb
    have h1 := atI2 (R := R) ha hb
    have h2 := atI2 (R := R) ha hm
    have h3 := atI2 (R := R) hm hb
    simp only [Option.bind_eq_bind] at h1 h2 h3
    rw [h1, h2, h3]
    unfold orO andO wst
    cases R a b <;> cases R a m <;> rfl
theorem m_closure_eq {n : Nat} {ps : List (Int × Int)} (hn : n ≤ 12) (hp : InR n ps) :
    m_closure (n : Int) ps = some (tab2 n (wsh (fun a b => a == b || decide (((a : Int), (b : Int)) ∈ ps)) n)) := by
  unfold m_closure
  rw [mul_small hn]
  simp only [Option.bind_eq_bind, Option.bind_some]
  have hnn : n * n ≤ 144 := Nat.mul_le_mul hn hn
  rw [rngM0 (by omega)]
  simp only [Option.bind_some]
  rw [mapS_tab (f := fun _ => some false) (g := fun _ => false) (by omega) (fun _ _ => rfl)]
  simp only [Option.bind_some]
  obtain ⟨s, e, h1, h2⟩ := cl_b1 hn (s := tab (n * n) fun _ => false) (D := fun _ _ => false) hp tab_len (fun a ha b hb => tab_get (ix_lt ha hb))
  rw [e]
  simp only [Option.bind_some]
  rw [rngM0 (by omega)]
  simp only [Option.bind_some]
  rw [mapS_tab (g := fun a => tab n fun b => (a == b || decide (((a : Int), (b : Int)) ∈ ps))) (by omega)]
  · simp only [Option.bind_some]
    have hf := forS_tab (body := m_closure_b2 (n : Int)) (a := fun i : Nat => (i : Int)) (n := n) (S := fun k => tab2 n (wsh (fun a b => a == b || decide (((a : Int), (b : Int)) ∈ ps)) k)) (fun i hi => cl_b2 hn hi)
    exact congrArg (fun z => z.bind some) hf
  · intro a ha
    rw [mapS_tab (g := fun b => (a == b || decide (((a : Int), (b : Int)) ∈ ps))) (by omega)]
    intro b hb
    rw [mul_small (by omega)]
    simp only [Option.bind_some]
    rw [show ((a * n : Nat) : Int) + (b : Int) = ((a * n + b : Nat) : Int) by simp]
    have : atI s ((a * n + b : Nat) : Int) = some (decide (((a : Int), (b : Int)) ∈ ps)) := by
      unfold atI
      rw [ixN_nat (by rw [h1]; exact ix_lt ha hb)]
      have := h2 a ha b hb
      simpa using this
    rw [this]
    unfold orO
    by_cases e : a = b
    · subst e; simp
    · have : ((a : Int) == (b : Int)) = false := by simp; omega
      rw [this]; simp [e]

/-! ### Warshall -/
theorem wsh_mono {R : Nat → Nat → Bool} {a b : Nat} : ∀ {k}, R a b = true → wsh R k a b = true
  | 0, h => h
  | k + 1, h => by
    show wst k (wsh R k) a b = true
    unfold wst
    rw [wsh_mono (k := k) h]
    rfl
theorem wsh_inv {R : Nat → Nat → Bool} : ∀ {k m a b}, m < k → wsh R k a m = true → wsh R k m b = true → wsh R k a b = true
  | k + 1, m, a, b, hm, h1, h2 => by
    have h1 : (wsh R k a m || (wsh R k a k && wsh R k k m)) = true := h1
    have h2 : (wsh R k m b || (wsh R k m k && wsh R k k b)) = true := h2
    show (wsh R k a b || (wsh R k a k && wsh R k k b)) = true
    simp only [Bool.or_eq_true, Bool.and_eq_true] at h1 h2 ⊢
    by_cases e : m = k
    · subst e
      rcases h1 with h1 | h1 <;> rcases h2 with h2 | h2 <;> simp_all
    · have hk : m < k := by omega
      have I := fun {a b : Nat} => wsh_inv (R := R) (k := k) (m := m) (a := a) (b := b) hk
      rcases h1 with h1 | ⟨h1, h1'⟩
      · rcases h2 with h2 | ⟨h2, h2'⟩
        · exact Or.inl (I h1 h2)
        · exact Or.inr ⟨I h1 h2, h2'⟩
      · rcases h2 with h2 | ⟨h2, h2'⟩
        · exact Or.inr ⟨h1, I h1' h2⟩
        · exact Or.inr ⟨h1, h2'⟩
theorem wsh_sound {R : Nat → Nat → Bool} {S : Nat → Nat → Prop} {n : Nat} (ht : ∀ a b c, a < n → b < n → c < n → S a b → S b c → S a c) (hR : ∀ a b, a < n → b < n → R a b = true → S a b) :
    ∀ {k a b}, k ≤ n → a < n → b < n → wsh R k a b = true → S a b
  | 0, a, b, _, ha, hb, h => hR a b ha hb h
  | k + 1, a, b, hk, ha, hb, h => by
    have h : (wsh R k a b || (wsh R k a k && wsh R k k b)) = true := h
    simp only [Bool.or_eq_true, Bool.and_eq_true] at h
    have I := fun {a b : Nat} => wsh_sound (S := S) ht hR (k := k) (a := a) (b := b) (by omega)
    rcases h with h | ⟨h, h'⟩
    · exact I ha hb h
    · exact ht a k b ha (by omega) hb (I ha (by omega) h) (I (by omega) hb h')

/-- an order on the places below n, told by pairs -/
structure Ord (n : Nat) (le : Nat → Nat → Bool) : Prop where
  rf : ∀ a, a < n → le a a = true
  an : ∀ a b, a < n → b < n → le a b = true → le b a = true → a = b
  tr : ∀ a b c, a < n → b < n → c < n → le a b = true → le b c = true → le a c = true
/-- the pairs tell the order -/
structure Gens (n : Nat) (le : Nat → Nat → Bool) (ps : List (Int × Int)) : Prop where
  rg : InR n ps
  sd : ∀ a b, a < n → b < n → ((a : Int), (b : Int)) ∈ ps → le a b = true
  gn : ∀ S : Nat → Nat → Prop, (∀ a, a < n → S a a) → (∀ a b c, a < n → b < n → c < n → S a b → S b c → S a c) → (∀ a b, a < n → b < n → ((a : Int), (b : Int)) ∈ ps → S a b) → ∀ a b, a < n → b < n → le a b = true → S a b
theorem closure_le {n : Nat} {le : Nat → Nat → Bool} {ps : List (Int × Int)} (hn : n ≤ 12) (o : Ord n le) (g : Gens n le ps) : m_closure (n : Int) ps = some (tab2 n le) := by
  rw [m_closure_eq hn g.rg]
  congr 1
  refine tab2_congr fun a ha b hb => ?_
  cases e : le a b with
  | true =>
    refine g.gn (fun a b => wsh (fun a b => a == b || decide (((a : Int), (b : Int)) ∈ ps)) n a b = true) (fun a ha => wsh_mono (by simp)) (fun a b c ha hb hc h1 h2 => wsh_inv hb h1 h2) (fun a b ha hb h => wsh_mono (by simp [h])) a b ha hb e
  | false =>
    cases e2 : wsh (fun a b => a == b || decide (((a : Int), (b : Int)) ∈ ps)) n a b with
    | false => rfl
    | true =>
      have := wsh_sound (S := fun a b => le a b = true) (n := n) o.tr (fun a b ha hb h => by
        simp only [Bool.or_eq_true, decide_eq_true_eq, beq_iff_eq] at h
        rcases h with h | h
        · subst h; exact o.rf a ha
        · exact g.sd a b ha hb h) (Nat.le_refl n) ha hb e2
      rw [e] at this
      cases this
/-- every two have a least above -/
structure Lub (n : Nat) (le : Nat → Nat → Bool) (j : Nat → Nat → Nat) : Prop where
  lt : ∀ a b, a < n → b < n → j a b < n
  l : ∀ a b, a < n → b < n → le a (j a b) = true
  r : ∀ a b, a < n → b < n → le b (j a b) = true
  le : ∀ a b c, a < n → b < n → c < n → le a c = true → le b c = true → le (j a b) c = true
theorem least_above_eq {n : Nat} {le : Nat → Nat → Bool} {j : Nat → Nat → Nat} (hn : n ≤ 12) (o : Ord n le) (L : Lub n le j) {a b : Nat} (ha : a < n) (hb : b < n) :
    m_least_above (tab2 n le) (a : Int) (b : Int) = some (some ((j a b : Nat) : Int)) := by
  unfold m_least_above
  rw [tab_len, rngM0 (by omega)]
  simp only [Option.bind_eq_bind, Option.bind_some]
  rw [lcS_tab (p := fun c => le a c && le b c) (g := fun c => (c : Int)) (by omega) ?h1 (fun _ _ => rfl)]
  case h1 =>
    intro c hc
    have h1 := atI2 (R := le) ha hc
    have h2 := atI2 (R := le) hb hc
    simp only [Option.bind_eq_bind] at h1 h2
    rw [h1, h2]
    unfold andO
    cases le a c <;> rfl
  simp only [Option.bind_some]
  have hU : ∀ c, c ∈ (List.range n).filter (fun c => le a c && le b c) ↔ c < n ∧ le a c = true ∧ le b c = true := fun c => by simp [List.mem_filter]
  generalize hUe : (List.range n).filter (fun c => le a c && le b c) = U at hU
  have hl : U.length ≤ n := by rw [← hUe]; exact Nat.le_trans (List.length_filter_le _ _) (by simp)
  rw [forL_find (p := fun e => (U.filter (fun x => le e x)).length == U.length) (g := fun e => some ((e : Nat) : Int))]
  · have hj : j a b ∈ U := (hU _).mpr ⟨L.lt a b ha hb, L.l a b ha hb, L.r a b ha hb⟩
    have key : ∀ e ∈ U, ((U.filter (fun x => le e x)).length == U.length) = true ↔ e = j a b := by
      intro e he
      rw [beq_iff_eq, List.length_filter_eq_length_iff]
      obtain ⟨h1, h2, h3⟩ := (hU e).mp he
      constructor
      · intro h
        exact o.an e (j a b) h1 (L.lt a b ha hb) (h _ hj) (L.le a b e ha hb h1 h2 h3)
      · rintro rfl x hx
        obtain ⟨k1, k2, k3⟩ := (hU x).mp hx
        exact L.le a b x ha hb k1 k2 k3
    cases hf : U.find? (fun e => (U.filter (fun x => le e x)).length == U.length) with
    | none =>
      have := List.find?_eq_none.mp hf _ hj
      exact absurd ((key _ hj).mpr rfl) this
    | some e =>
      have h1 := List.mem_of_find?_eq_some hf
      have h2 := List.find?_some hf
      have := (key e h1).mp h2
      subst this
      rfl
  · intro e he
    obtain ⟨h1, _, _⟩ := (hU e).mp he
    unfold m_least_above_b1
    rw [lcS_map (p := fun x => le e x) (g := fun c => (c : Int)) (by omega) ?h2 (fun _ _ => rfl)]
    case h2 =>
      intro x hx
      obtain ⟨k1, _, _⟩ := (hU x).mp hx
      exact atI2 h1 k1
    simp only [Option.bind_eq_bind, Option.bind_some, List.length_map]
    have : (((U.filter fun x => le e x).length : Int) == (U.length : Int)) = ((U.filter fun x => le e x).length == U.length) := by
      cases h : ((U.filter fun x => le e x).length == U.length) with
      | true => rw [beq_iff_eq] at h; rw [h]; simp
      | false => rw [beq_eq_false_iff_ne] at h ⊢; omega
    rw [this]
    cases ((U.filter fun x => le e x).length == U.length) <;> rfl
theorem bounds_eq {n : Nat} {le : Nat → Nat → Bool} {j : Nat → Nat → Nat} (hn : n ≤ 12) (o : Ord n le) (L : Lub n le j) : m_bounds_table (tab2 n le) = some (tab2 n fun a b => some ((j a b : Nat) : Int)) := by
  unfold m_bounds_table
  rw [tab_len]
  simp only [Option.bind_eq_bind, Option.bind_some]
  rw [rngM0 (by omega)]
  simp only [Option.bind_some]
  rw [mapS_tab (g := fun a => tab n fun b => some ((j a b : Nat) : Int)) (by omega)]
  · rfl
  · intro a ha
    rw [mapS_tab (g := fun b => some ((j a b : Nat) : Int)) (by omega)]
    intro b hb
    exact least_above_eq hn o L ha hb
theorem first_ring_eq {n : Nat} {le : Nat → Nat → Bool} (hn : n ≤ 12) (o : Ord n le) : m_first_ring (tab2 n le) = some none := by
  unfold m_first_ring
  rw [tab_len]
  simp only [Option.bind_eq_bind, Option.bind_some]
  rw [rngM0 (by omega)]
  simp only [Option.bind_some]
  rw [forL_nxT]
  · rfl
  · intro a ha
    unfold m_first_ring_b1
    rw [tab_len]
    simp only [Option.bind_eq_bind, Option.bind_some]
    rw [show (a : Int) + 1 = ((a + 1 : Nat) : Int) by simp, rngM1 (by omega) (by omega)]
    simp only [Option.bind_some]
    rw [forL_nxT]
    · rfl
    · intro i hi
      have hb : a + 1 + i < n := by omega
      unfold m_first_ring_b2
      have h1 := atI2 (R := le) ha hb
      have h2 := atI2 (R := le) hb ha
      rw [h1, h2]
      unfold andO
      cases e1 : le a (a + 1 + i) with
      | false => rfl
      | true =>
        cases e2 : le (a + 1 + i) a with
        | false => rfl
        | true => exact absurd (o.an _ _ ha hb e1 e2) (by omega)
theorem first_lack_eq {n : Nat} {j : Nat → Nat → Int} (hn : n ≤ 12) : m_first_lack (tab2 n fun a b => some (j a b)) = some none := by
  unfold m_first_lack
  rw [tab_len]
  simp only [Option.bind_eq_bind, Option.bind_some]
  rw [rngM0 (by omega)]
  simp only [Option.bind_some]
  rw [forL_nxT]
  · rfl
  · intro a ha
    unfold m_first_lack_b1
    rw [tab_len]
    simp only [Option.bind_eq_bind, Option.bind_some]
    rw [show (a : Int) + 1 = ((a + 1 : Nat) : Int) by simp, rngM1 (by omega) (by omega)]
    simp only [Option.bind_some]
    rw [forL_nxT]
    · rfl
    · intro i hi
      have hb : a + 1 + i < n := by omega
      unfold m_first_lack_b2
      have h1 := atI2 (R := fun a b => some (j a b)) ha hb
      rw [h1]
      rfl
theorem turned_eq {n : Nat} {le : Nat → Nat → Bool} (hn : n ≤ 12) : m_turned (tab2 n le) = some (tab2 n fun a b => le b a) := by
  unfold m_turned
  rw [tab_len, rngM0 (by omega)]
  simp only [Option.bind_eq_bind, Option.bind_some]
  rw [mapS_tab (g := fun a => tab n fun b => le b a) (by omega)]
  · rfl
  · intro a ha
    rw [mapS_tab (g := fun b => le b a) (by omega)]
    intro b hb
    exact atI2 hb ha
theorem Ord.op {n : Nat} {le : Nat → Nat → Bool} (o : Ord n le) : Ord n (fun a b => le b a) :=
  ⟨o.rf, fun a b ha hb h1 h2 => o.an a b ha hb h2 h1, fun a b c ha hb hc h1 h2 => o.tr c b a hc hb ha h2 h1⟩
theorem maxL_some : ∀ {xs : List Int}, xs ≠ [] → ∃ m, maxL xs = some m
  | [], h => absurd rfl h
  | [x], _ => ⟨x, rfl⟩
  | x :: y :: ys, _ => by
    obtain ⟨m, h⟩ := maxL_some (xs := y :: ys) (by simp)
    exact ⟨_, by unfold maxL; rw [h]; rfl⟩
theorem longest_some {n : Nat} {le : Nat → Nat → Bool} (hn : n ≤ 12) (h0 : 0 < n) : ∃ m, m_longest (tab2 n le) = some m := by
  unfold m_longest
  have hl : (tab2 n le).length = n := tab_len
  rw [mapS_map (g := fun _ => (0 : Int)) (by omega) (fun _ _ => rfl)]
  simp only [Option.bind_eq_bind, Option.bind_some]
  obtain ⟨s, e, hs⟩ := forS_keep (body := m_longest_b1 (tab2 n le)) (xs := tab2 n le) (k := 0) (I := fun _ (s : List Int) => s.length = n) (s := List.map (fun _ => (0 : Int)) (tab2 n le)) (by simp [tab_len]) (by
    intro x _ k s _ _ hs
    unfold m_longest_b1
    simp only [tab_len, Option.bind_eq_bind, Option.bind_some]
    rw [rngM0 (by omega)]
    simp only [Option.bind_some]
    obtain ⟨s2, e2, hs2⟩ := forS_keep (body := m_longest_b2 (tab2 n le)) (xs := tab n fun i => (i : Int)) (k := 0) (I := fun _ (s : List Int) => s.length = n) (s := s) hs (by
      intro x hx k s _ _ hs
      obtain ⟨a, ha, rfl⟩ := tab_mem.mp hx
      unfold m_longest_b2
      simp only [tab_len, Option.bind_eq_bind, Option.bind_some]
      rw [rngM0 (by omega)]
      simp only [Option.bind_some]
      obtain ⟨s3, e3, hs3⟩ := forS_keep (body := m_longest_b3 (a : Int) (tab2 n le)) (xs := tab n fun i => (i : Int)) (k := 0) (I := fun _ (s : List Int) => s.length = n) (s := s) hs (by
        intro x hx k s _ _ hs
        obtain ⟨b, hb, rfl⟩ := tab_mem.mp hx
        unfold m_longest_b3
        have h1 := atI2 (R := le) ha hb
        rw [h1]
        unfold andO
        have g1 := atI_nat (xs := s) (i := b) (by omega)
        have g2 := atI_nat (xs := s) (i := a) (by omega)
        cases e : ((a : Int) == (b : Int)) with
        | true => exact ⟨s, by simp, hs⟩
        | false =>
          cases e2 : le a b with
          | false => exact ⟨s, by simp, hs⟩
          | true =>
            simp only [Bool.not_false, Option.bind_eq_bind, Option.bind_some, cond_true, g1, g2]
            unfold setM
            rw [ixN_nat (by omega)]
            exact ⟨_, rfl, by simp [hs]⟩)
      rw [e3]
      exact ⟨s3, rfl, hs3⟩)
    rw [e2]
    exact ⟨s2, rfl, hs2⟩)
  rw [e]
  obtain ⟨m, hm⟩ := maxL_some (xs := s) (by intro q; subst q; simp at hs; omega)
  exact ⟨m, by simp only [Option.bind_some]; rw [hm]; rfl⟩
/-- a lattice of n places -/
structure Lat (n : Nat) (le : Nat → Nat → Bool) (j m : Nat → Nat → Nat) : Prop where
  lo : 1 ≤ n
  hi : n ≤ 12
  o : Ord n le
  j : Lub n le j
  m : Lub n (fun a b => le b a) m
structure IsOrd (n : Nat) (le : Nat → Nat → Bool) (j m : Nat → Nat → Nat) (o : m_Order) : Prop where
  above : o.f_above = tab2 n le
  joins : o.f_joins = tab2 n fun a b => some ((j a b : Nat) : Int)
  meets : o.f_meets = tab2 n fun a b => some ((m a b : Nat) : Int)
  members : o.f_members = tab n fun i => (i : Int)
  height : m_longest (tab2 n le) = some o.f_height
theorem Order_init_eq {n : Nat} {le : Nat → Nat → Bool} {j m : Nat → Nat → Nat} {ps : List (Int × Int)} (L : Lat n le j m) (g : Gens n le ps) : ∃ o, m_Order___init__ (n : Int) ps = some o ∧ IsOrd n le j m o := by
  have hn := L.hi
  have h0 := L.lo
  unfold m_Order___init__
  have e1 : ((decide ((n : Int) < 1)) || (decide ((12 : Int) < (n : Int)))) = false := by simp; omega
  rw [e1]
  simp only [Option.bind_eq_bind, bs, cond_false]
  rw [forS_un (body := m_Order___init___b1 (n : Int)) (by
    intro p hp
    obtain ⟨a, b, ha, hb, rfl⟩ := g.rg p hp
    unfold m_Order___init___b1
    simp only [Option.bind_eq_bind, bs]
    rw [forS_un]
    · rfl
    · intro x hx
      unfold m_Order___init___b2
      have : (decide (x < 0) || decide ((n : Int) ≤ x)) = false := by
        rcases List.mem_cons.mp hx with rfl | hx
        · simp; omega
        · rcases List.mem_cons.mp hx with rfl | hx
          · simp; omega
          · cases hx
      rw [this]; rfl)]
  simp only [bs]
  rw [closure_le hn L.o g]
  simp only [bs]
  rw [first_ring_eq hn L.o]
  simp only [bs, Option.isSome_none, cond_false]
  rw [bounds_eq hn L.o L.j]
  simp only [bs]
  rw [first_lack_eq hn]
  simp only [bs, Option.isSome_none, cond_false]
  rw [turned_eq hn]
  simp only [bs]
  rw [bounds_eq hn L.o.op L.m]
  simp only [bs]
  rw [first_lack_eq hn]
  simp only [bs, Option.isSome_none, cond_false]
  rw [rngM0 (by omega)]
  simp only [bs]
  obtain ⟨h, hh⟩ := longest_some (le := le) hn h0
  rw [hh]
  simp only [bs]
  refine ⟨⟨tab2 n le, _, _, _, h⟩, congrArg some (Eq.refl _), ?_⟩
  exact ⟨Eq.refl _, Eq.refl _, Eq.refl _, Eq.refl _, hh⟩
end My

namespace My
open PySem L2 Sim PyProof.Rows
/-! ### the pot -/
theorem draw_eq (pot : List Int) {n : Nat} (h : 0 < n) : ∃ (v : Nat) (pot' : List Int), m__law_draw pot (n : Int) = some ((v : Int), pot') ∧ v < n := by
  unfold m__law_draw
  cases e : ((pot.length : Int) == 0) with
  | true => exact ⟨0, pot, rfl, h⟩
  | false =>
    have h0 : 0 < pot.length := by rw [beq_eq_false_iff_ne] at e; omega
    simp only [Option.bind_eq_bind, bs, cond_false]
    unfold popM
    rw [List.getElem?_eq_getElem (show pot.length - 1 < pot.length by omega)]
    simp only [Option.bind_eq_bind, bs]
    unfold modM
    rw [if_pos (by omega)]
    have h1 := Int.emod_nonneg (pot[pot.length - 1]) (show (n : Int) ≠ 0 by omega)
    have h2 := Int.emod_lt_of_pos (pot[pot.length - 1]) (show (0 : Int) < n by omega)
    refine ⟨(pot[pot.length - 1] % (n : Int)).toNat, pot.dropLast, ?_, by omega⟩
    simp only [bs]
    rw [show (((pot[pot.length - 1] % (n : Int)).toNat : Nat) : Int) = pot[pot.length - 1] % (n : Int) by omega]
theorem draw_lit (pot : List Int) (n : Nat) (h : 0 < n) {z : Int} (hz : z = (n : Int)) : ∃ (v : Nat) (pot' : List Int), m__law_draw pot z = some ((v : Int), pot') ∧ v < n := by
  subst hz; exact draw_eq pot h
theorem pot_b2 {k : Nat} {x : Int} {s : List Int × Int} (h1 : s.1.length ≤ k) (hk : k < 100000) : ∃ s', m__law_pot_b2 x s = some s' ∧ s'.1.length ≤ k + 1 := by
  obtain ⟨p, r⟩ := s
  unfold m__law_pot_b2
  simp only [Option.bind_eq_bind, bs]
  have hd : fdivM r 100 = some (r / 100) := by unfold fdivM; rw [if_pos (by decide)]
  have hm : modM r 100 = some (r % 100) := by unfold modM; rw [if_pos (by decide)]
  have ha : appM p (r % 100) = some (p ++ [r % 100]) := by unfold appM; rw [sz_t (show p.length < 100000 from Nat.lt_of_le_of_lt h1 hk)]; rfl
  rw [hd, hm]
  have h1 : p.length ≤ k := h1
  cases (decide ((0 : Int) < r) || x == 0) with
  | true =>
    simp only [cond_true, bs, ha]
    exact ⟨_, rfl, by simp; exact h1⟩
  | false =>
    simp only [cond_false, bs]
    exact ⟨_, rfl, by simp; omega⟩
theorem pot_b1 {ns : List Int} {i k : Nat} {s : List Int} (hi : i < ns.length) (hi' : i < 63) (h1 : s.length ≤ k) (hk : k + 60 < 100000) : ∃ s', m__law_pot_b1 ns (i : Int) s = some s' ∧ s'.length ≤ k + 60 := by
  unfold m__law_pot_b1
  rw [atI_nat hi]
  simp only [Option.bind_eq_bind, bs]
  generalize hr : (if ns[i] < 0 then -ns[i] else ns[i]) = r
  have hr0 : 0 ≤ r := by rw [← hr]; split <;> omega
  have hp : powM 10 18 = some 1000000000000000000 := by decide
  rw [hp]
  simp only [bs]
  have loop : ∀ (m : Nat) (r : Int), m ≤ 60 → ∃ s', ((rngM 0 (m : Int)).bind fun xs1671 => (forS m__law_pot_b2 xs1671 (s, r)).bind fun s1676 => some s1676.1) = some s' ∧ s'.length ≤ k + 60 := by
    intro m r hm
    rw [rngM0 (by omega)]
    simp only [bs]
    obtain ⟨t, e, ht⟩ := forS_keep (body := m__law_pot_b2) (xs := tab m fun i => (i : Int)) (k := k) (I := fun j (s : List Int × Int) => s.1.length ≤ j) (s := (s, r)) h1 (by
      intro x _ j s hj hj' hs
      rw [tab_len] at hj'
      exact pot_b2 hs (by omega))
    rw [e]
    rw [tab_len] at ht
    exact ⟨_, rfl, by omega⟩
  cases e : decide (r < 1000000000000000000) with
  | false =>
    simp only [cond_false, bs]
    obtain ⟨s', e2, h2⟩ := loop 60 r (by omega)
    exact ⟨s', e2, h2⟩
  | true =>
    have hr1 : r < 1000000000000000000 := of_decide_eq_true e
    simp only [cond_true, bs]
    have k1 : mulM 2 r = some (2 * r) := by unfold mulM; rw [if_pos (by omega)]
    have k2 : mulM 2 (i : Int) = some (2 * (i : Int)) := by unfold mulM; rw [if_pos (by omega)]
    have k3 : ∀ z, mulM z (48271 + 2 * (i : Int)) = some (z * (48271 + 2 * (i : Int))) := fun z => by unfold mulM; rw [if_pos (by omega)]
    rw [k1, k2]
    simp only [bs]
    rw [k3]
    simp only [bs]
    have k4 : ∀ z, modM z 2147483647 = some (z % 2147483647) := fun z => by unfold modM; rw [if_pos (by decide)]
    have k5 : ∀ z, modM z 2147483629 = some (z % 2147483629) := fun z => by unfold modM; rw [if_pos (by decide)]
    rw [k4]
    simp only [bs]
    generalize hq : ((2 * r + if decide (ns[i] < 0) = true then (1 : Int) else 0) * (48271 + 2 * (i : Int))) % 2147483647 = q
    have q0 : 0 ≤ q := by rw [← hq]; exact Int.emod_nonneg _ (by decide)
    have q1 : q < 2147483647 := by rw [← hq]; exact Int.emod_lt_of_pos _ (by decide)
    have k6 : mulM q q = some (q * q) := by unfold mulM; rw [if_pos (by omega)]
    have k7 : mulM q (i : Int) = some (q * (i : Int)) := by unfold mulM; rw [if_pos (by omega)]
    rw [k6, k7]
    simp only [bs]
    rw [k5]
    simp only [bs]
    obtain ⟨s', e2, h2⟩ := loop 4 ((q * q + q * (i : Int)) % 2147483629) (by omega)
    exact ⟨s', e2, h2⟩
theorem pot_eq (ns : List Int) : ∃ p, m__law_pot ns = some p := by
  unfold m__law_pot
  simp only [Option.bind_eq_bind, bs]
  have hn : ∃ n : Nat, (if (63 : Int) < (ns.length : Int) then (63 : Int) else (ns.length : Int)) = (n : Int) ∧ n ≤ 63 ∧ n ≤ ns.length := by
    split
    · exact ⟨63, rfl, by omega, by omega⟩
    · exact ⟨ns.length, rfl, by omega, by omega⟩
  obtain ⟨n, e, h1, h2⟩ := hn
  rw [e, rngM0 (by omega)]
  simp only [bs]
  obtain ⟨t, e, ht⟩ := forS_keep (body := m__law_pot_b1 ns) (xs := tab n fun i => (i : Int)) (k := 0) (I := fun j (s : List Int) => s.length ≤ j * 60) (s := []) (by simp) (by
    intro x hx j s hj hj' hs
    rw [tab_len] at hj'
    obtain ⟨i, hi, rfl⟩ := tab_mem.mp hx
    obtain ⟨s', e1, h1⟩ := pot_b1 (ns := ns) (i := i) (k := j * 60) (s := s) (by omega) (by omega) hs (by omega)
    exact ⟨s', e1, by omega⟩)
  rw [e]
  exact ⟨_, rfl⟩

end My

namespace My
open PySem L2 Sim PyProof.Rows
/-! ### the pot -/
/-! ### the masks -/
def nts (ms : List Nat) : List Int := ms.map (fun k : Nat => (k : Int))
structure Masks (ms : List Nat) : Prop where
  nd : ms.Nodup
  lt : ∀ x ∈ ms, x < 32
  top : 31 ∈ ms
  cl : ∀ x ∈ ms, ∀ y ∈ ms, x &&& y ∈ ms
theorem bitAnd_nat (x y : Nat) : Builtin.bitAnd (x : Int) (y : Int) = ((x &&& y : Nat) : Int) := by
  rw [bitAnd_pp (by omega) (by omega)]; simp
theorem mem_nts {x : Nat} {ms : List Nat} : (x : Int) ∈ nts ms ↔ x ∈ ms := by
  unfold nts
  rw [List.mem_map]
  constructor
  · rintro ⟨k, hk, e⟩
    have : k = x := by omega
    subst this; exact hk
  · intro h; exact ⟨x, h, rfl⟩
theorem nts_len {ms : List Nat} : (nts ms).length = ms.length := by simp [nts]
theorem len_sub {α : Type} [BEq α] [LawfulBEq α] : ∀ {l l2 : List α}, l.Nodup → (∀ x ∈ l, x ∈ l2) → l.length ≤ l2.length
  | [], _, _, _ => Nat.zero_le _
  | x :: xs, l2, h, hs => by
    have hx := hs x (List.mem_cons_self ..)
    obtain ⟨h1, h2⟩ := List.nodup_cons.mp h
    have := len_sub (l := xs) (l2 := l2.erase x) h2 fun y hy => by
      have hne : y ≠ x := fun e => h1 (e ▸ hy)
      exact (List.mem_erase_of_ne hne).mpr (hs y (List.mem_cons_of_mem _ hy))
    rw [List.length_erase_of_mem hx] at this
    have := List.length_pos_of_mem hx
    simp only [List.length_cons]
    omega
theorem nodup_len {ms : List Nat} (h : ms.Nodup) (hl : ∀ x ∈ ms, x < 32) : ms.length ≤ 32 := by
  have := len_sub h (l2 := List.range 32) (fun x hx => List.mem_range.mpr (hl x hx))
  simpa using this
/-- all & v added -/
def addAll (v : Nat) : List Nat → List Nat → List Nat
  | [], s => s
  | x :: xs, s => addAll v xs (if x &&& v ∈ s then s else s ++ [x &&& v])
theorem addAll_mem {v : Nat} : ∀ {xs s : List Nat} {z : Nat}, z ∈ addAll v xs s ↔ z ∈ s ∨ ∃ x ∈ xs, x &&& v = z
  | [], s, z => by simp [addAll]
  | x :: xs, s, z => by
    unfold addAll
    rw [addAll_mem]
    split
    · rename_i h
      constructor
      · rintro (h1 | ⟨y, hy, rfl⟩)
        · exact Or.inl h1
        · exact Or.inr ⟨y, List.mem_cons_of_mem _ hy, rfl⟩
      · rintro (h1 | ⟨y, hy, rfl⟩)
        · exact Or.inl h1
        · rcases List.mem_cons.mp hy with rfl | hy
          · exact Or.inl h
          · exact Or.inr ⟨y, hy, rfl⟩
    · constructor
      · rintro (h1 | ⟨y, hy, rfl⟩)
        · rcases List.mem_append.mp h1 with h1 | h1
          · exact Or.inl h1
          · rw [List.mem_singleton] at h1
            exact Or.inr ⟨x, List.mem_cons_self .., h1.symm⟩
        · exact Or.inr ⟨y, List.mem_cons_of_mem _ hy, rfl⟩
      · rintro (h1 | ⟨y, hy, rfl⟩)
        · exact Or.inl (List.mem_append_left _ h1)
        · rcases List.mem_cons.mp hy with rfl | hy
          · exact Or.inl (List.mem_append_right _ (List.mem_singleton.mpr rfl))
          · exact Or.inr ⟨y, hy, rfl⟩
theorem addAll_nd {v : Nat} : ∀ {xs s : List Nat}, s.Nodup → (addAll v xs s).Nodup
  | [], s, h => h
  | x :: xs, s, h => by
    unfold addAll
    split
    · exact addAll_nd h
    · rename_i hx
      exact addAll_nd (by
        rw [List.nodup_append]
        refine ⟨h, by simp, fun a ha b hb e => ?_⟩
        rw [List.mem_singleton] at hb
        subst hb; subst e
        exact hx ha)
theorem addAll_lt {v : Nat} {xs s : List Nat} (h : ∀ x ∈ s, x < 32) (hv : v < 32) : ∀ x ∈ addAll v xs s, x < 32 := by
  intro z hz
  rcases addAll_mem.mp hz with h1 | ⟨x, _, rfl⟩
  · exact h z h1
  · exact Nat.lt_of_le_of_lt Nat.and_le_right hv
theorem addAll_masks {v : Nat} {ms : List Nat} (h : Masks ms) (hv : v < 32) : Masks (addAll v ms ms) := by
  refine ⟨addAll_nd h.nd, addAll_lt h.lt hv, addAll_mem.mpr (Or.inl h.top), fun x hx y hy => ?_⟩
  refine addAll_mem.mpr ?_
  rcases addAll_mem.mp hx with h1 | ⟨a, ha, rfl⟩ <;> rcases addAll_mem.mp hy with h2 | ⟨b, hb, rfl⟩
  · exact Or.inl (h.cl _ h1 _ h2)
  · exact Or.inr ⟨x &&& b, h.cl _ h1 _ hb, Nat.and_assoc ..⟩
  · exact Or.inr ⟨a &&& y, h.cl _ ha _ h2, by rw [Nat.and_assoc, Nat.and_assoc, Nat.and_comm y v]⟩
  · refine Or.inr ⟨a &&& b, h.cl _ ha _ hb, ?_⟩
    rw [Nat.and_assoc, Nat.and_assoc, ← Nat.and_assoc v b v, Nat.and_comm v b, Nat.and_assoc b v v, Nat.and_self]
theorem masks_b2 {v : Nat} {pp : List Int} (hv : v < 32) : ∀ {xs s : List Nat}, s.Nodup → (∀ x ∈ s, x < 32) → forS (m__law_masks_b2 ((v : Int), pp)) (nts xs) (nts s) = some (nts (addAll v xs s))
  | [], s, _, _ => rfl
  | x :: xs, s, h, hl => by
    have ih : ∀ {s : List Nat}, s.Nodup → (∀ x ∈ s, x < 32) → forS (m__law_masks_b2 ((v : Int), pp)) (nts xs) (nts s) = some (nts (addAll v xs s)) := fun h1 h2 => masks_b2 hv h1 h2
    show (m__law_masks_b2 ((v : Int), pp) (x : Int) (nts s) >>= forS (m__law_masks_b2 ((v : Int), pp)) (nts xs)) = _
    have h1 := addAll_nd (v := v) (xs := [x]) h
    have h2 := addAll_lt (v := v) (xs := [x]) hl hv
    unfold addAll at h1 h2
    unfold addAll at h1 h2
    unfold addAll
    have e : m__law_masks_b2 ((v : Int), pp) (x : Int) (nts s) = some (nts (if x &&& v ∈ s then s else s ++ [x &&& v])) := by
      unfold m__law_masks_b2
      simp only [Option.bind_eq_bind, bs, bitAnd_nat]
      have hm : ((nts s).any fun z => z == ((x &&& v : Nat) : Int)) = decide (x &&& v ∈ s) := by
        cases q : ((nts s).any fun z => z == ((x &&& v : Nat) : Int)) with
        | true =>
          rw [List.any_eq_true] at q
          obtain ⟨z, hz, e⟩ := q
          rw [beq_iff_eq] at e; subst e
          simp [mem_nts.mp hz]
        | false =>
          have : x &&& v ∉ s := fun hx => by
            rw [List.any_eq_false] at q
            exact q _ (mem_nts.mpr hx) (by simp)
          simp [this]
      rw [hm]
      by_cases q : x &&& v ∈ s
      · simp [q]
      · have := nodup_len h hl
        simp only [q, decide_false, Bool.not_false, cond_true, if_false]
        unfold appM
        rw [sz_t (by rw [nts_len]; omega)]
        simp [nts]
    rw [e]
    exact ih h1 h2
structure MSt (most : Nat) (s : List Int × List Int) : Prop where
  ex : ∃ ms, Masks ms ∧ s.1 = nts ms ∧ ms.length ≤ most
theorem masks_b1 {most : Nat} {x : Int} {s : List Int × List Int} (h : MSt most s) : ∃ s', m__law_masks_b1 (most : Int) x s = some s' ∧ MSt most s' := by
  obtain ⟨m, p⟩ := s
  obtain ⟨ms, h1, rfl, h2⟩ := h.ex
  unfold m__law_masks_b1
  simp only [Option.bind_eq_bind, bs]
  obtain ⟨v, pot', e, hv⟩ := draw_lit p 32 (by decide) (z := 32) rfl
  rw [e]
  simp only [bs]
  rw [masks_b2 hv h1.nd h1.lt]
  simp only [bs, nts_len]
  by_cases q : (addAll v ms ms).length ≤ most
  · have : decide (((addAll v ms ms).length : Int) ≤ (most : Int)) = true := by simp; exact q
    rw [this]
    exact ⟨_, rfl, ⟨_, addAll_masks h1 hv, rfl, q⟩⟩
  · have : decide (((addAll v ms ms).length : Int) ≤ (most : Int)) = false := by simp; omega
    rw [this]
    exact ⟨_, rfl, ⟨_, h1, rfl, h2⟩⟩
theorem masks_b3 {xs : List Int} {k : Nat} {x : Int} {s : List Int × (List Int × List Int)} (hk : k < xs.length) (hl : xs.length < 100) (h : (s.1 ++ s.2.2).Perm xs ∧ s.1.length = k) :
    ∃ s', m__law_masks_b3 x s = some s' ∧ (s'.1 ++ s'.2.2).Perm xs ∧ s'.1.length = k + 1 := by
  obtain ⟨a, p, r⟩ := s
  obtain ⟨h1, h2⟩ := h
  have h1 : (a ++ r).Perm xs := h1
  have h2 : a.length = k := h2
  have hr := h1.length_eq
  rw [List.length_append] at hr
  unfold m__law_masks_b3
  simp only [Option.bind_eq_bind, bs]
  obtain ⟨v, pot', e, hv⟩ := draw_eq p (n := r.length) (by omega)
  rw [e]
  simp only [bs]
  rw [popAt_eq hv (by omega)]
  simp only [bs]
  unfold appM
  rw [sz_t (by omega)]
  refine ⟨_, rfl, ?_, by simp [h2]⟩
  show ((a ++ [r[v]]) ++ r.eraseIdx v).Perm xs
  refine (List.Perm.trans ?_ h1)
  rw [List.append_assoc]
  exact List.Perm.append_left a (perm_erase hv).symm
theorem Masks.perm {ms ms' : List Nat} (h : Masks ms) (p : ms'.Perm ms) : Masks ms' :=
  ⟨p.nodup_iff.mpr h.nd, fun x hx => h.lt x (p.mem_iff.mp hx), p.mem_iff.mpr h.top, fun x hx y hy => p.mem_iff.mpr (h.cl x (p.mem_iff.mp hx) y (p.mem_iff.mp hy))⟩
theorem perm_nts {xs : List Int} {ms : List Nat} (p : xs.Perm (nts ms)) : ∃ ms', xs = nts ms' ∧ ms'.Perm ms := by
  refine ⟨xs.map Int.toNat, ?_, ?_⟩
  · unfold nts
    rw [List.map_map]
    have : ∀ x ∈ xs, (((fun k : Nat => (k : Int)) ∘ Int.toNat) x) = x := fun x hx => by
      obtain ⟨k, _, rfl⟩ := List.mem_map.mp (p.mem_iff.mp hx)
      simp
    rw [List.map_congr_left this]
    simp
  · have := p.map Int.toNat
    unfold nts at this
    rw [List.map_map] at this
    have e : (Int.toNat ∘ fun k : Nat => (k : Int)) = id := by funext k; simp
    rw [e, List.map_id] at this
    exact this
theorem masks_eq (pot : List Int) {most : Nat} (hm : 1 ≤ most) : ∃ ms pot', m__law_masks pot (most : Int) = some (nts ms, pot') ∧ Masks ms ∧ ms.length ≤ most := by
  unfold m__law_masks
  simp only [Option.bind_eq_bind, bs]
  obtain ⟨v, p1, e, hv⟩ := draw_lit pot 6 (by decide) (z := 6) rfl
  rw [e]
  simp only [bs]
  have e2 : modM ((v : Int) + 1) 6 = some (((v + 1) % 6 : Nat) : Int) := by
    unfold modM
    rw [if_pos (by decide)]
    simp
  rw [e2]
  simp only [bs]
  rw [rngM0 (by omega)]
  simp only [bs]
  obtain ⟨s, e3, h3⟩ := forS_keep (body := m__law_masks_b1 (most : Int)) (xs := tab ((v + 1) % 6) fun i => (i : Int)) (k := 0) (I := fun _ s => MSt most s) (s := ([31], p1)) ⟨[31], ⟨by simp, by simp, by simp, by simp⟩, rfl, hm⟩ (fun x _ j s _ _ hs => masks_b1 hs)
  rw [e3]
  simp only [bs]
  obtain ⟨m, p2⟩ := s
  obtain ⟨ms, h4, rfl, h5⟩ := h3.ex
  have h6 := nodup_len h4.nd h4.lt
  rw [nts_len, if_pos (by omega)]
  simp only [bs]
  have hp := srtI_perm (nts ms)
  have hl := hp.length_eq
  rw [nts_len] at hl
  rw [hl, rngM0 (by omega)]
  simp only [bs]
  obtain ⟨s, e7, h7⟩ := forS_keep (body := m__law_masks_b3) (xs := tab ms.length fun i => (i : Int)) (k := 0) (I := fun j (s : List Int × (List Int × List Int)) => (s.1 ++ s.2.2).Perm (srtI (nts ms)) ∧ s.1.length = j) (s := ([], (p2, srtI (nts ms)))) ⟨by simp, rfl⟩ (by
    intro x _ j s _ hj hs
    rw [tab_len] at hj
    exact masks_b3 (by omega) (by omega) hs)
  rw [e7]
  simp only [bs]
  obtain ⟨a, p3, r⟩ := s
  obtain ⟨h8, h9⟩ := h7
  have h8 : (a ++ r).Perm (srtI (nts ms)) := h8
  have h9 : a.length = 0 + (tab ms.length fun i => (i : Int)).length := h9
  rw [tab_len] at h9
  have h10 := h8.length_eq
  rw [List.length_append] at h10
  have : r = [] := List.length_eq_zero_iff.mp (by omega)
  subst this
  rw [List.append_nil] at h8
  obtain ⟨ms', rfl, h11⟩ := perm_nts (h8.trans hp)
  exact ⟨ms', p3, rfl, h4.perm h11, by rw [h11.length_eq]; exact h5⟩

/-! ### the order of the masks -/
def mle (ms : List Nat) (a b : Nat) : Bool := (ms.getD a 0 &&& ms.getD b 0) == ms.getD a 0
def mmeet (ms : List Nat) (a b : Nat) : Nat := ms.idxOf (ms.getD a 0 &&& ms.getD b 0)
def andAll : List Nat → Nat
  | [] => 31
  | x :: xs => x &&& andAll xs
def mjoin (ms : List Nat) (a b : Nat) : Nat := ms.idxOf (andAll (ms.filter fun z => (ms.getD a 0 &&& z == ms.getD a 0) && (ms.getD b 0 &&& z == ms.getD b 0)))
theorem getD_mem {ms : List Nat} {a : Nat} (h : a < ms.length) : ms.getD a 0 ∈ ms := by
  rw [List.getD_eq_getElem?_getD, List.getElem?_eq_getElem h]; exact List.getElem_mem h
theorem getD_inj {ms : List Nat} (hd : ms.Nodup) {a b : Nat} (ha : a < ms.length) (hb : b < ms.length) (h : ms.getD a 0 = ms.getD b 0) : a = b := by
  rw [List.getD_eq_getElem?_getD, List.getD_eq_getElem?_getD, List.getElem?_eq_getElem ha, List.getElem?_eq_getElem hb] at h
  exact (List.getElem_inj hd).mp h
theorem getD_idx {ms : List Nat} {x : Nat} (h : x ∈ ms) : ms.idxOf x < ms.length ∧ ms.getD (ms.idxOf x) 0 = x := by
  have := List.idxOf_lt_length_of_mem h
  refine ⟨this, ?_⟩
  rw [List.getD_eq_getElem?_getD, List.getElem?_eq_getElem this]
  exact List.getElem_idxOf this
theorem andAll_mem {ms : List Nat} (h : Masks ms) : ∀ {xs : List Nat}, (∀ x ∈ xs, x ∈ ms) → andAll xs ∈ ms
  | [], _ => h.top
  | x :: xs, hx => h.cl _ (hx x (List.mem_cons_self ..)) _ (andAll_mem h fun y hy => hx y (List.mem_cons_of_mem _ hy))
theorem andAll_le {xs : List Nat} : ∀ {x : Nat}, x ∈ xs → andAll xs &&& x = andAll xs := by
  induction xs with
  | nil => intro x h; cases h
  | cons y ys ih =>
    intro x h
    unfold andAll
    rcases List.mem_cons.mp h with rfl | h
    · rw [Nat.and_comm x (andAll ys), Nat.and_assoc, Nat.and_self]
    · rw [Nat.and_assoc, ih h]
theorem le_andAll {a : Nat} (ha : a < 32) : ∀ {xs : List Nat}, (∀ x ∈ xs, a &&& x = a) → a &&& andAll xs = a
  | [], _ => by
    have : a % 2 ^ 5 = a := Nat.mod_eq_of_lt ha
    rw [← Nat.and_two_pow_sub_one_eq_mod] at this
    exact this
  | x :: xs, h => by
    show a &&& (x &&& andAll xs) = a
    rw [← Nat.and_assoc, h x (List.mem_cons_self ..), le_andAll ha fun y hy => h y (List.mem_cons_of_mem _ hy)]
theorem mOrd {ms : List Nat} (h : Masks ms) : Ord ms.length (mle ms) where
  rf a _ := by unfold mle; rw [Nat.and_self]; simp
  an a b ha hb h1 h2 := by
    unfold mle at h1 h2
    rw [beq_iff_eq] at h1 h2
    rw [Nat.and_comm] at h2
    exact getD_inj h.nd ha hb (h1.symm.trans h2)
  tr a b c ha hb hc h1 h2 := by
    unfold mle at h1 h2 ⊢
    rw [beq_iff_eq] at h1 h2 ⊢
    rw [← h1, Nat.and_assoc, h2]
theorem mMeet {ms : List Nat} (h : Masks ms) : Lub ms.length (fun a b => mle ms b a) (mmeet ms) where
  lt a b ha hb := (getD_idx (h.cl _ (getD_mem ha) _ (getD_mem hb))).1
  l a b ha hb := by
    unfold mle mmeet
    rw [(getD_idx (h.cl _ (getD_mem ha) _ (getD_mem hb))).2, beq_iff_eq, Nat.and_comm (ms.getD a 0), Nat.and_assoc, Nat.and_self]
  r a b ha hb := by
    unfold mle mmeet
    rw [(getD_idx (h.cl _ (getD_mem ha) _ (getD_mem hb))).2, beq_iff_eq, Nat.and_assoc, Nat.and_self]
  le a b c ha hb hc h1 h2 := by
    unfold mle mmeet at *
    rw [(getD_idx (h.cl _ (getD_mem ha) _ (getD_mem hb))).2]
    rw [beq_iff_eq] at *
    rw [← Nat.and_assoc, h1, h2]
theorem mJoin {ms : List Nat} (h : Masks ms) : Lub ms.length (mle ms) (mjoin ms) := by
  have hm : ∀ a b, andAll (ms.filter fun z => (ms.getD a 0 &&& z == ms.getD a 0) && (ms.getD b 0 &&& z == ms.getD b 0)) ∈ ms := fun a b => andAll_mem h fun x hx => (List.mem_filter.mp hx).1
  have hu : ∀ a b x, x ∈ (ms.filter fun z => (ms.getD a 0 &&& z == ms.getD a 0) && (ms.getD b 0 &&& z == ms.getD b 0)) ↔ x ∈ ms ∧ ms.getD a 0 &&& x = ms.getD a 0 ∧ ms.getD b 0 &&& x = ms.getD b 0 := fun a b x => by
    rw [List.mem_filter]; simp
  refine ⟨fun a b ha hb => (getD_idx (hm a b)).1, fun a b ha hb => ?_, fun a b ha hb => ?_, fun a b c ha hb hc h1 h2 => ?_⟩
  · unfold mle mjoin
    rw [(getD_idx (hm a b)).2, beq_iff_eq]
    exact le_andAll (h.lt _ (getD_mem ha)) fun x hx => ((hu a b x).mp hx).2.1
  · unfold mle mjoin
    rw [(getD_idx (hm a b)).2, beq_iff_eq]
    exact le_andAll (h.lt _ (getD_mem hb)) fun x hx => ((hu a b x).mp hx).2.2
  · unfold mle mjoin at *
    rw [(getD_idx (hm a b)).2]
    rw [beq_iff_eq] at *
    exact andAll_le ((hu a b _).mpr ⟨getD_mem hc, h1, h2⟩)
theorem Masks.ne {ms : List Nat} (h : Masks ms) : 1 ≤ ms.length := List.length_pos_of_mem h.top
theorem mLat {ms : List Nat} (h : Masks ms) (hl : ms.length ≤ 12) : Lat ms.length (mle ms) (mjoin ms) (mmeet ms) := ⟨h.ne, hl, mOrd h, mJoin h, mMeet h⟩
theorem atI_nts {ms : List Nat} {a : Nat} (h : a < ms.length) : atI (nts ms) (a : Int) = some ((ms.getD a 0 : Nat) : Int) := by
  rw [atI_nat (by rw [nts_len]; exact h)]
  simp [nts, List.getD_eq_getElem?_getD, List.getElem?_eq_getElem h]
theorem under_eq {ms : List Nat} {a b : Nat} (ha : a < ms.length) (hb : b < ms.length) : m__law_under (nts ms) (a : Int) (b : Int) = some (mle ms a b) := by
  unfold m__law_under
  rw [atI_nts ha, atI_nts hb]
  simp only [Option.bind_eq_bind, bs, bitAnd_nat]
  unfold mle
  congr 1
  cases e : (ms.getD a 0 &&& ms.getD b 0 == ms.getD a 0) with
  | true => rw [beq_iff_eq] at e; rw [e]; simp
  | false => rw [beq_eq_false_iff_ne] at e ⊢; omega
end My

namespace My
theorem sel {α β γ : Type} {f : α → γ} {g : β → γ} {a : α} : Sum.elim f g (Sum.inl a) = f a := Eq.trans (Eq.refl _) (Eq.refl _)
theorem ctr {α : Type} {a b : α} : (bif true then a else b) = a := Eq.trans (Eq.refl _) (Eq.refl _)
theorem cfa {α : Type} {a b : α} : (bif false then a else b) = b := Eq.trans (Eq.refl _) (Eq.refl _)
theorem isn {α : Type} : (none : Option α).isSome = false := Eq.trans (Eq.refl _) (Eq.refl _)
theorem iss {α : Type} {a : α} : (some a).isSome = true := Eq.trans (Eq.refl _) (Eq.refl _)
end My

namespace My
open PySem L2 Sim PyProof.Rows
/-! ### names -/
theorem lsub {α : Type} [DecidableEq α] : ∀ {l l2 : List α}, l.Nodup → (∀ x ∈ l, x ∈ l2) → l.length ≤ l2.length
  | [], _, _, _ => Nat.zero_le _
  | x :: xs, l2, h, hs => by
    have hx := hs x (List.mem_cons_self ..)
    obtain ⟨h1, h2⟩ := List.nodup_cons.mp h
    have := lsub (l := xs) (l2 := l2.erase x) h2 fun y hy => by
      have hne : y ≠ x := fun e => h1 (e ▸ hy)
      exact (List.mem_erase_of_ne hne).mpr (hs y (List.mem_cons_of_mem _ hy))
    rw [List.length_erase_of_mem hx] at this
    have := List.length_pos_of_mem hx
    simp only [List.length_cons]
    omega
theorem addS_ok {x y : Str} (h : x.length + y.length < 100000) : addS x y = some (x ++ y) := by unfold addS; rw [decide_eq_true h]; rfl
theorem len1 (c : Nat) : (⟨#[c]⟩ : Str).length = 1 := rfl
theorem mulS_ok (c : Nat) {v : Nat} (h : v < 4) : ∃ z, mulS ⟨#[c]⟩ (v : Int) = some z ∧ z.length ≤ 3 := by
  have hc : decide ((v : Int) < 100 ∧ -100 < (v : Int) ∧ (⟨#[c]⟩ : Str).length < 1000) = true := by
    rw [len1]; exact decide_eq_true ⟨by omega, by omega, by omega⟩
  unfold mulS
  rw [hc]
  refine ⟨_, rfl, ?_⟩
  rcases v with _ | _ | _ | _ | v
  · show 0 ≤ 3
    omega
  · show 1 ≤ 3
    omega
  · show 2 ≤ 3
    omega
  · show 3 ≤ 3
    omega
  · omega
theorem sgl : ("abcdefghijklmnopqrstuvwxyzABCDEFGHIJKLMNOPQRSTUVWXYZ0123456789" : Str).cps.toList.length = 62 := by decide +kernel
theorem ixS_ok {v : Nat} (h : v < 62) : ∃ c, ixS ("abcdefghijklmnopqrstuvwxyzABCDEFGHIJKLMNOPQRSTUVWXYZ0123456789" : Str) (v : Int) = some ⟨#[c]⟩ := by
  unfold ixS
  have e : ("abcdefghijklmnopqrstuvwxyzABCDEFGHIJKLMNOPQRSTUVWXYZ0123456789" : Str).length = 62 := by
    rw [← sgl]; rfl
  rw [e, decide_eq_true (by omega), ctr, atI_nat (by rw [sgl]; exact h)]
  exact ⟨_, rfl⟩
theorem any_mem {s : List Str} {z : Str} : (s.any fun y => y == z) = decide (z ∈ s) := by
  by_cases h : z ∈ s
  · rw [decide_eq_true h, List.any_eq_true]
    exact ⟨z, h, by simp⟩
  · rw [decide_eq_false h, List.any_eq_false]
    intro y hy
    simp
    rintro rfl
    exact h hy
/-- short, or with an x at its end -/
def Pr (z : Str) : Prop := z.length ≤ 4 ∨ z.cps.toList.getLast? = some 120
/-- what is known of a name behind j tries -/
def Nm (ns : List Str) (j : Nat) (z : Str) : Prop := Pr z ∧ z.length ≤ 10 + j ∧ (z ∉ ns ∨ ∃ l : List Str, l.Nodup ∧ l.length = j ∧ ∀ y ∈ l, y ∈ ns ∧ y.length < z.length)
theorem names_b2 {s : List Str × List Int} {x : Int} {j : Nat} {z : Str} (hj : j < 1000) (h : Nm s.1 j z) : ∃ z', m__law_names_b2 s x z = some z' ∧ Nm s.1 (j + 1) z' := by
  unfold m__law_names_b2
  simp only [Option.bind_eq_bind, bs]
  rw [any_mem]
  obtain ⟨h0, h1, h2⟩ := h
  by_cases hz : z ∈ s.1
  · have hx : ("x" : Str).length = 1 := rfl
    rw [decide_eq_true hz, ctr, addS_ok (by rw [hx]; omega)]
    simp only [bs]
    have hl : (z ++ ("x" : Str)).length = z.length + 1 := by rw [PySem.Str.length_append, hx]
    refine ⟨_, rfl, .inr (show (z.cps ++ #[120]).toList.getLast? = some 120 by simp), by rw [hl]; omega, .inr ?_⟩
    rcases h2 with h2 | ⟨l, l1, l2, l3⟩
    · exact absurd hz h2
    · refine ⟨z :: l, List.nodup_cons.mpr ⟨fun hm => absurd (l3 z hm).2 (Nat.lt_irrefl _), l1⟩, by rw [List.length_cons, l2], fun y hy => ?_⟩
      rw [hl]
      rcases List.mem_cons.mp hy with rfl | hy
      · exact ⟨hz, by omega⟩
      · exact ⟨(l3 y hy).1, by have := (l3 y hy).2; omega⟩
  · rw [decide_eq_false hz, cfa]
    exact ⟨_, rfl, h0, by omega, .inl hz⟩
theorem names_eqL (pot : List Int) {many : Nat} (hm : many ≤ 100) : ∃ ns pot', m__law_names pot (many : Int) = some (ns, pot') ∧ ns.Nodup ∧ ns.length = many ∧ ∀ y ∈ ns, Pr y ∧ y.length ≤ 200 := by
  unfold m__law_names
  simp only [Option.bind_eq_bind, bs]
  rw [rngM0 (by omega)]
  simp only [bs]
  suffices h : ∀ (k i : Nat) (s : List Str × List Int), i + k = many → s.1.Nodup → s.1.length = i → (∀ y ∈ s.1, Pr y ∧ y.length ≤ 200) → ∃ s', forS (m__law_names_b1 ("abcdefghijklmnopqrstuvwxyzABCDEFGHIJKLMNOPQRSTUVWXYZ0123456789" : Str)) ((List.range' i k).map fun i : Nat => (i : Int)) s = some s' ∧ s'.1.Nodup ∧ s'.1.length = many ∧ ∀ y ∈ s'.1, Pr y ∧ y.length ≤ 200 by
    obtain ⟨s', e, h1, h2⟩ := h many 0 ([], pot) (by omega) List.nodup_nil rfl (fun y hy => (nomatch hy))
    have e' : forS (m__law_names_b1 ("abcdefghijklmnopqrstuvwxyzABCDEFGHIJKLMNOPQRSTUVWXYZ0123456789" : Str)) (tab many fun i => (i : Int)) ([], pot) = some s' := by
      unfold tab
      rw [List.range_eq_range']
      exact e
    rw [e']
    exact ⟨_, _, rfl, h1, h2⟩
  intro k
  induction k with
  | zero => intro i s hi h1 h2 h0; exact ⟨s, rfl, h1, by omega, h0⟩
  | succ k ih =>
    intro i s hi h1 h2 h0
    obtain ⟨ns, p⟩ := s
    replace h0 : ∀ y ∈ ns, Pr y ∧ y.length ≤ 200 := h0
    replace h1 : ns.Nodup := h1
    replace h2 : ns.length = i := h2
    show ∃ s', (m__law_names_b1 _ (i : Int) (ns, p) >>= forS (m__law_names_b1 _) ((List.range' (i + 1) k).map fun i : Nat => (i : Int))) = some s' ∧ _
    have step : ∃ s', m__law_names_b1 ("abcdefghijklmnopqrstuvwxyzABCDEFGHIJKLMNOPQRSTUVWXYZ0123456789" : Str) (i : Int) (ns, p) = some s' ∧ s'.1.Nodup ∧ s'.1.length = i + 1 ∧ ∀ y ∈ s'.1, Pr y ∧ y.length ≤ 200 := by
      unfold m__law_names_b1
      simp only [Option.bind_eq_bind, bs]
      obtain ⟨a, p1, e, ha⟩ := draw_lit p 62 (by decide) (z := 62) rfl
      rw [e]
      simp only [bs]
      obtain ⟨c, e⟩ := ixS_ok ha
      rw [e]
      simp only [bs]
      obtain ⟨b, p2, e, hb⟩ := draw_lit p1 4 (by decide) (z := 4) rfl
      rw [e]
      simp only [bs]
      obtain ⟨z, e, hz⟩ := mulS_ok c hb
      rw [e]
      simp only [bs]
      obtain ⟨a', p3, e, ha'⟩ := draw_lit p2 62 (by decide) (z := 62) rfl
      rw [e]
      simp only [bs]
      obtain ⟨c', e⟩ := ixS_ok ha'
      rw [e]
      simp only [bs]
      rw [addS_ok (by rw [len1]; omega)]
      simp only [bs]
      rw [rngM0 (by omega)]
      simp only [bs]
      obtain ⟨z', e, h30, h3, h4⟩ := forS_keep (body := m__law_names_b2 (ns, p)) (xs := tab i fun i => (i : Int)) (k := 0) (I := Nm ns) (s := z ++ ⟨#[c']⟩) ⟨.inl (by rw [PySem.Str.length_append, len1]; omega), by rw [PySem.Str.length_append, len1]; omega, .inr ⟨[], List.nodup_nil, rfl, fun y hy => by cases hy⟩⟩ (fun x _ j s _ hj hs => names_b2 (s := (ns, p)) (by rw [tab_len] at hj; omega) hs)
      rw [e]
      simp only [bs]
      have h5 : z' ∉ ns := by
        rcases h4 with h4 | ⟨l, l1, l2, l3⟩
        · exact h4
        · intro hz'
          have := lsub (l := z' :: l) (l2 := ns) (List.nodup_cons.mpr ⟨fun hm => absurd (l3 z' hm).2 (Nat.lt_irrefl _), l1⟩) (fun y hy => by
            rcases List.mem_cons.mp hy with rfl | hy
            · exact hz'
            · exact (l3 y hy).1)
          rw [List.length_cons, l2, tab_len, h2] at this
          omega
      unfold appM
      rw [sz_t (by omega)]
      refine ⟨_, rfl, ?_, by simp [h2], fun y hy => ?_⟩
      · show (ns ++ [z']).Nodup
        rw [List.nodup_append]
        exact ⟨h1, by simp, fun x hx y hy => by
          rw [List.mem_singleton] at hy
          subst hy
          exact fun e => h5 (e ▸ hx)⟩
      · rcases List.mem_append.mp hy with hy | hy
        · exact h0 y hy
        · rw [List.mem_singleton.mp hy]
          exact ⟨h30, by rw [tab_len] at h3; omega⟩
    obtain ⟨s1, e, n1, n2, n3⟩ := step
    rw [e]
    exact ih (i + 1) s1 (by omega) n1 n2 n3
theorem names_eq (pot : List Int) {many : Nat} (hm : many ≤ 100) : ∃ ns pot', m__law_names pot (many : Int) = some (ns, pot') ∧ ns.Nodup ∧ ns.length = many := by
  obtain ⟨ns, p, e, h1, h2, _⟩ := names_eqL pot hm
  exact ⟨ns, p, e, h1, h2⟩
/-! ### tables -/
section
variable {α : Type}
theorem put_new {d : List (Str × α)} {k : Str} {x : α} (h : k ∉ d.map (·.1)) : putM d k x = d ++ [(k, x)] := by
  unfold putM
  rw [if_neg]
  intro h2
  obtain ⟨q, hq, e⟩ := List.any_eq_true.mp h2
  exact h (List.mem_map.mpr ⟨q, hq, of_decide_eq_true e⟩)
theorem put_old {d : List (Str × α)} {k : Str} {x : α} (h : k ∈ d.map (·.1)) : putM d k x = d.map fun q => if q.1 = k then (q.1, x) else q := by
  unfold putM
  rw [if_pos]
  obtain ⟨q, hq, e⟩ := List.mem_map.mp h
  exact List.any_eq_true.mpr ⟨q, hq, decide_eq_true e⟩
theorem put_keys {d : List (Str × α)} {k : Str} {x : α} : (putM d k x).map (·.1) = if k ∈ d.map (·.1) then d.map (·.1) else d.map (·.1) ++ [k] := by
  by_cases h : k ∈ d.map (·.1)
  · rw [put_old h, if_pos h, List.map_map]
    refine List.map_congr_left fun q _ => ?_
    show (if q.1 = k then (q.1, x) else q).1 = q.1
    split <;> rfl
  · rw [put_new h, if_neg h, List.map_append]; rfl
theorem put_mem {d : List (Str × α)} {k : Str} {x : α} {q : Str × α} (h : q ∈ putM d k x) : q ∈ d ∨ q = (k, x) := by
  by_cases hk : k ∈ d.map (·.1)
  · rw [put_old hk] at h
    obtain ⟨r, hr, e⟩ := List.mem_map.mp h
    by_cases e2 : r.1 = k
    · rw [if_pos e2] at e; subst e; right; rw [e2]
    · rw [if_neg e2] at e; subst e; exact .inl hr
  · rw [put_new hk] at h
    rcases List.mem_append.mp h with h | h
    · exact .inl h
    · exact .inr (List.mem_singleton.mp h)
theorem put_len {d : List (Str × α)} {k : Str} {x : α} : (putM d k x).length ≤ d.length + 1 := by
  have := congrArg List.length (put_keys (d := d) (k := k) (x := x))
  rw [List.length_map] at this
  rw [this]
  split <;> simp
theorem look_mem {d : List (Str × α)} {k : Str} {x : α} (h : lookM d k = some x) : (k, x) ∈ d := by
  unfold lookM at h
  cases e : d.find? fun q => decide (q.1 = k) with
  | none => rw [e] at h; cases h
  | some q =>
    rw [e] at h
    have h1 : q.1 = k := of_decide_eq_true (p := q.1 = k) (List.find?_some (p := fun q : Str × α => decide (q.1 = k)) e)
    have h2 := List.mem_of_find?_eq_some e
    have h3 : q.2 = x := Option.some.inj h
    rw [← h1, ← h3]
    exact h2
theorem look_nd : ∀ {d : List (Str × α)} {k : Str} {x : α}, (d.map (·.1)).Nodup → (k, x) ∈ d → lookM d k = some x
  | q :: d, k, x, nd, h => by
    obtain ⟨n1, n2⟩ := List.nodup_cons.mp nd
    unfold lookM
    rw [List.find?_cons]
    rcases List.mem_cons.mp h with rfl | h
    · rw [decide_eq_true rfl]; rfl
    · have hne : ¬ q.1 = k := fun e => n1 (List.mem_map.mpr ⟨(k, x), h, e.symm⟩)
      rw [decide_eq_false hne]
      exact look_nd n2 h
theorem putMM_ok {d : List (Str × α)} {k : Str} {x : α} (h : d.length < 100000) : putMM d k x = some (putM d k x) := by unfold putMM; rw [decide_eq_true h]; rfl
/-- a table of elements, of at most l entries -/
structure Tb (n l : Nat) (d : List (Str × Int)) : Prop where
  nd : (d.map (·.1)).Nodup
  rg : ∀ q ∈ d, ∃ a : Nat, a < n ∧ q.2 = (a : Int)
  ln : d.length ≤ l
theorem Tb.nil {n l : Nat} : Tb n l [] := ⟨List.nodup_nil, fun q hq => (nomatch hq), Nat.zero_le _⟩
theorem Tb.imp {n l l' : Nat} {d : List (Str × Int)} (t : Tb n l d) (h : l ≤ l') : Tb n l' d := ⟨t.nd, t.rg, Nat.le_trans t.ln h⟩
theorem Tb.put {n l a : Nat} {k : Str} {d : List (Str × Int)} (t : Tb n l d) (ha : a < n) : Tb n (l + 1) (putM d k (a : Int)) where
  nd := by
    rw [put_keys]
    split
    · exact t.nd
    · rename_i h
      rw [List.nodup_append]
      exact ⟨t.nd, by simp, fun x hx y hy => by
        rw [List.mem_singleton] at hy
        subst hy
        exact fun e => h (e ▸ hx)⟩
  rg q hq := by
    rcases put_mem hq with h | rfl
    · exact t.rg q h
    · exact ⟨a, ha, rfl⟩
  ln := Nat.le_trans put_len (Nat.add_le_add_right t.ln 1)
theorem Tb.get {n l a : Nat} {d : List (Str × Int)} (t : Tb n l d) (ha : a < n) (k : Str) : ∃ b : Nat, b < n ∧ (lookM d k).getD (a : Int) = (b : Int) := by
  cases e : lookM d k with
  | none => exact ⟨a, ha, rfl⟩
  | some x =>
    obtain ⟨b, hb, e2⟩ := t.rg _ (look_mem e)
    exact ⟨b, hb, e2⟩
/-- entry by entry made anew -/
theorem copy_loop {body : Str → List (Str × Int) → Option (List (Str × Int))} {d : List (Str × Int)} (nd : (d.map (·.1)).Nodup) (hl : d.length < 100000)
    (hb : ∀ k s, body k s = (lookM d k >>= fun x => putMM s k x)) : forS body (d.map (·.1)) [] = some d := by
  suffices h : ∀ (r s : List (Str × Int)), s ++ r = d → forS body (r.map (·.1)) s = some d from h d [] rfl
  intro r
  induction r with
  | nil => intro s e; rw [List.append_nil] at e; rw [e]; rfl
  | cons q r ih =>
    intro s e
    show (body q.1 s >>= forS body (r.map (·.1))) = some d
    have hq : (q.1, q.2) ∈ d := by rw [← e]; simp
    have hs : s.length < 100000 := by
      have := congrArg List.length e
      rw [List.length_append] at this
      omega
    have hn : q.1 ∉ s.map (·.1) := by
      rw [← e, List.map_append, List.map_cons, List.nodup_append] at nd
      exact fun hm => nd.2.2 q.1 hm q.1 (List.mem_cons_self ..) rfl
    rw [hb, look_nd nd hq]
    simp only [Option.bind_eq_bind, bs]
    rw [putMM_ok hs, put_new hn]
    simp only [bs]
    exact ih (s ++ [q]) (by rw [List.append_assoc]; exact e)
theorem same_self {d : List (Str × Int)} (nd : (d.map (·.1)).Nodup) : sameM d d = true := by
  unfold sameM
  rw [decide_eq_true rfl, Bool.true_and, List.all_eq_true]
  exact fun q hq => decide_eq_true (look_nd nd hq)
end
end My

namespace My
open PySem L2 Sim PyProof.Rows
theorem forS_flat {α β γ : Type} {body : β → List γ → Option (List γ)} {a : α → β} {f : α → List γ} {B : Nat} : ∀ {xs : List α} {s : List γ}, (∀ x ∈ xs, ∀ s, s.length + (f x).length ≤ B → body (a x) s = some (s ++ f x)) → s.length + (xs.flatMap f).length ≤ B →
    forS body (xs.map a) s = some (s ++ xs.flatMap f)
  | [], s, _, _ => by simp [forS]
  | x :: xs, s, h, hB => by
    show (body (a x) s >>= forS body (xs.map a)) = _
    rw [List.flatMap_cons, List.length_append] at hB
    rw [h x (List.mem_cons_self ..) s (by omega)]
    show forS body (xs.map a) (s ++ f x) = _
    rw [forS_flat (fun y hy => h y (List.mem_cons_of_mem _ hy)) (by rw [List.length_append]; omega), List.flatMap_cons, List.append_assoc]
theorem flat_len {α γ : Type} {f : α → List γ} {k : Nat} : ∀ {xs : List α}, (∀ x ∈ xs, (f x).length ≤ k) → (xs.flatMap f).length ≤ xs.length * k
  | [], _ => by simp
  | x :: xs, h => by
    rw [List.flatMap_cons, List.length_append, List.length_cons, Nat.succ_mul]
    have := flat_len (fun y hy => h y (List.mem_cons_of_mem _ hy))
    have := h x (List.mem_cons_self ..)
    omega
theorem andT {b : Option Bool} : andO (some true) b = b := rfl
theorem orF {b : Option Bool} : orO (some false) b = b := rfl
theorem natIn {n a : Nat} (h : a < n) : (decide ((a : Int) < 0) || decide ((n : Int) ≤ (a : Int))) = false := by simp; omega
theorem idx_nts {ms : List Nat} (nd : ms.Nodup) {a : Nat} (ha : a < ms.length) : idxM (fun a b => a == b) (nts ms) ((ms.getD a 0 : Nat) : Int) = some (a : Int) := by
  unfold idxM
  have e : (nts ms).findIdx? (fun z => z == ((ms.getD a 0 : Nat) : Int)) = some a := by
    rw [List.findIdx?_eq_some_iff_getElem]
    refine ⟨by rw [nts_len]; exact ha, ?_, ?_⟩
    · simp [nts, List.getD_eq_getElem?_getD, List.getElem?_eq_getElem ha]
    · intro k hk
      have hk' : k < ms.length := by omega
      have : ms.getD k 0 ≠ ms.getD a 0 := fun z => by have := getD_inj nd hk' ha z; omega
      simp only [nts, List.getElem_map]
      rw [List.getD_eq_getElem?_getD, List.getElem?_eq_getElem hk', List.getD_eq_getElem?_getD, List.getElem?_eq_getElem ha] at this
      rw [List.getD_eq_getElem?_getD, List.getElem?_eq_getElem ha]
      simp only [Option.getD_some] at this ⊢
      simp; omega
  rw [e]; rfl
theorem minL_some : ∀ {xs : List Int}, xs ≠ [] → ∃ m, minL xs = some m
  | [], h => absurd rfl h
  | [x], _ => ⟨x, rfl⟩
  | x :: y :: ys, _ => by
    obtain ⟨k, hk⟩ := minL_some (xs := y :: ys) (by simp)
    unfold minL
    rw [hk]
    exact ⟨_, rfl⟩
theorem minL_of {xs : List Int} {m : Int} (hm : m ∈ xs) (h : ∀ y ∈ xs, m ≤ y) : minL xs = some m := by
  obtain ⟨k, hk⟩ := minL_some (List.ne_nil_of_mem hm)
  obtain ⟨h1, h2⟩ := minL_ok hk
  have := h2 m hm
  have := h k h1
  rw [hk]; congr 1; omega
theorem filter_lt {α : Type} {p q : α → Bool} : ∀ {xs : List α}, (∀ x ∈ xs, q x = true → p x = true) → (∃ x ∈ xs, p x = true ∧ q x = false) → (xs.filter q).length < (xs.filter p).length
  | [], _, h => by obtain ⟨_, h, _⟩ := h; cases h
  | x :: xs, h, h2 => by
    have hle : ∀ {xs : List α}, (∀ x ∈ xs, q x = true → p x = true) → (xs.filter q).length ≤ (xs.filter p).length := by
      intro xs
      induction xs with
      | nil => intro _; simp
      | cons y ys ih =>
        intro h
        have := ih fun z hz => h z (List.mem_cons_of_mem _ hz)
        have h1 := h y (List.mem_cons_self ..)
        simp only [List.filter_cons]
        cases e : q y <;> cases e2 : p y <;> simp_all <;> omega
    have hx := h x (List.mem_cons_self ..)
    have ht := fun y hy => h y (List.mem_cons_of_mem x hy)
    obtain ⟨y, hy, h3, h4⟩ := h2
    simp only [List.filter_cons]
    rcases List.mem_cons.mp hy with rfl | hy
    · rw [h3, h4]
      have := hle ht
      simp
      omega
    · have := filter_lt ht ⟨y, hy, h3, h4⟩
      cases e : q x <;> cases e2 : p x <;> simp_all <;> omega

/-- a loop over places, what holds at each -/
theorem forS_ix {α σ : Type} {body : α → σ → Option σ} {a : Nat → α} {I : Nat → σ → Prop} {n : Nat} {s : σ} (h0 : I 0 s) (h : ∀ i < n, ∀ s, I i s → ∃ s', body (a i) s = some s' ∧ I (i + 1) s') : ∃ s', forS body (tab n a) s = some s' ∧ I n s' := by
  suffices h' : ∀ m k s, k + m = n → I k s → ∃ s', forS body ((List.range' k m).map a) s = some s' ∧ I n s' by
    have := h' n 0 s (by omega) h0
    rw [← List.range_eq_range'] at this
    exact this
  intro m
  induction m with
  | zero => intro k s hk hI; have : k = n := by omega
            subst this; exact ⟨s, rfl, hI⟩
  | succ m ih =>
    intro k s hk hI
    obtain ⟨s1, e1, h1⟩ := h k (by omega) s hI
    obtain ⟨s2, e2, h2⟩ := ih (k + 1) s1 (by omega) h1
    refine ⟨s2, ?_, h2⟩
    show (body (a k) s >>= forS body ((List.range' (k + 1) m).map a)) = _
    rw [e1]; exact e2
theorem forS_ls {α σ : Type} {body : α → σ → Option σ} {I : List α → σ → Prop} : ∀ {xs pre : List α} {s : σ}, I pre s → (∀ pre x s, x ∈ xs → I pre s → ∃ s', body x s = some s' ∧ I (pre ++ [x]) s') → ∃ s', forS body xs s = some s' ∧ I (pre ++ xs) s'
  | [], pre, s, h0, _ => ⟨s, rfl, by rw [List.append_nil]; exact h0⟩
  | x :: xs, pre, s, h0, h => by
    obtain ⟨s1, e1, h1⟩ := h pre x s (List.mem_cons_self ..) h0
    obtain ⟨s2, e2, h2⟩ := forS_ls (xs := xs) (pre := pre ++ [x]) h1 fun pre y s hy => h pre y s (List.mem_cons_of_mem _ hy)
    refine ⟨s2, ?_, by rw [List.append_assoc] at h2; exact h2⟩
    show (body x s >>= forS body xs) = _
    rw [e1]; exact e2
theorem forL_some {α β ρ : Type} {body : β → Unit → Option (Stp Unit ρ)} {a : α → β} {g : α → Option ρ} : ∀ {xs : List α}, (∀ x ∈ xs, body (a x) () = some (match g x with | some r => .rt r | none => .nx ())) →
    forL body (xs.map a) () = some (match xs.findSome? g with | some r => .inr r | none => .inl ())
  | [], _ => rfl
  | x :: xs, h => by
    show (body (a x) () >>= stpK (forL body (xs.map a))) = _
    rw [h x (List.mem_cons_self ..), List.findSome?_cons]
    cases g x with
    | some r => rfl
    | none => exact forL_some fun y hy => h y (List.mem_cons_of_mem _ hy)
end My

namespace My
open PySem L2 Sim PyProof.Rows
/-! ### all related pairs -/
def relp (ms : List Nat) : List (Int × Int) := (List.range ms.length).flatMap fun a => (List.range ms.length).flatMap fun b => if (!(a == b) && mle ms a b) = true then [((a : Int), (b : Int))] else []
theorem relp_mem {ms : List Nat} {p : Int × Int} : p ∈ relp ms ↔ ∃ a b, a < ms.length ∧ b < ms.length ∧ (!(a == b) && mle ms a b) = true ∧ p = ((a : Int), (b : Int)) := by
  unfold relp
  rw [List.mem_flatMap]
  constructor
  · rintro ⟨a, ha, h⟩
    obtain ⟨b, hb, h⟩ := List.mem_flatMap.mp h
    split at h
    · rename_i hc
      exact ⟨a, b, List.mem_range.mp ha, List.mem_range.mp hb, hc, List.mem_singleton.mp h⟩
    · cases h
  · rintro ⟨a, b, ha, hb, hc, rfl⟩
    refine ⟨a, List.mem_range.mpr ha, List.mem_flatMap.mpr ⟨b, List.mem_range.mpr hb, ?_⟩⟩
    rw [if_pos hc]
    exact List.mem_singleton.mpr rfl
theorem relp_len (ms : List Nat) : (relp ms).length ≤ ms.length * ms.length := by
  have := flat_len (f := fun a => (List.range ms.length).flatMap fun b => if (!(a == b) && mle ms a b) = true then [((a : Int), (b : Int))] else []) (k := ms.length) (xs := List.range ms.length) (fun a _ => by
    have := flat_len (f := fun b => if (!(a == b) && mle ms a b) = true then [((a : Int), (b : Int))] else []) (k := 1) (xs := List.range ms.length) (fun x _ => by split <;> simp)
    simpa using this)
  rw [List.length_range] at this
  exact this
theorem pairs_eq {ms : List Nat} (hl : ms.length ≤ 12) : m__law_pairs (nts ms) = some (relp ms) := by
  unfold m__law_pairs
  simp only [Option.bind_eq_bind, bs, nts_len]
  rw [rngM0 (by omega)]
  simp only [bs]
  have h2 : ms.length * ms.length ≤ 144 := Nat.mul_le_mul hl hl
  have h3 := relp_len ms
  have := forS_flat (body := m__law_pairs_b1 (nts ms)) (a := fun i : Nat => (i : Int)) (f := fun a => (List.range ms.length).flatMap fun b => if (!(a == b) && mle ms a b) = true then [((a : Int), (b : Int))] else []) (B := 144) (xs := List.range ms.length) (s := []) (by
    intro a ha s hs
    have ha := List.mem_range.mp ha
    unfold m__law_pairs_b1
    simp only [Option.bind_eq_bind, bs, nts_len]
    rw [rngM0 (by omega)]
    simp only [bs]
    have := forS_flat (body := m__law_pairs_b2 (a : Int) (nts ms)) (a := fun i : Nat => (i : Int)) (f := fun b => if (!(a == b) && mle ms a b) = true then [((a : Int), (b : Int))] else []) (B := 144) (xs := List.range ms.length) (s := s) (by
      intro b hb s hs
      have hb := List.mem_range.mp hb
      unfold m__law_pairs_b2
      rw [under_eq ha hb]
      have e0 : ((a : Int) == (b : Int)) = (a == b) := by
        cases e : (a == b) with
        | true => rw [beq_iff_eq] at e; rw [e]; simp
        | false => rw [beq_eq_false_iff_ne] at e ⊢; omega
      rw [e0]
      have e1 : andO (some (!(a == b))) (some (mle ms a b)) = some (!(a == b) && mle ms a b) := by cases (a == b) <;> rfl
      rw [e1]
      simp only [Option.bind_eq_bind, bs]
      cases e : (!(a == b) && mle ms a b) with
      | true =>
        simp only [cond_true, bs]
        unfold appM
        rw [sz_t (by omega)]
        simp
      | false => simp) hs
    show ((forS (m__law_pairs_b2 (a : Int) (nts ms)) (List.map (fun i : Nat => (i : Int)) (List.range ms.length)) s).bind some) = _
    rw [this]
    rfl) (by simp only [List.length_nil, Nat.zero_add]; exact Nat.le_trans h3 h2)
  show ((forS (m__law_pairs_b1 (nts ms)) (List.map (fun i : Nat => (i : Int)) (List.range ms.length)) []).bind some) = _
  rw [this]
  rfl
theorem relp_gens {ms : List Nat} (h : Masks ms) : Gens ms.length (mle ms) (relp ms) where
  rg p hp := by obtain ⟨a, b, ha, hb, _, e⟩ := relp_mem.mp hp; exact ⟨a, b, ha, hb, e⟩
  sd a b ha hb hp := by
    obtain ⟨c, d, _, _, hc, e⟩ := relp_mem.mp hp
    rw [Prod.mk.injEq] at e
    have h1 : a = c := by omega
    have h2 : b = d := by omega
    subst h1 h2
    simp only [Bool.and_eq_true] at hc
    exact hc.2
  gn S rf tr st a b ha hb hle := by
    by_cases e : a = b
    · subst e; exact rf a ha
    · exact st a b ha hb (relp_mem.mpr ⟨a, b, ha, hb, by simp [e, hle], rfl⟩)
end My

namespace My
open PySem L2 Sim PyProof.Rows
theorem require_eq {n : Nat} {le : Nat → Nat → Bool} {j m : Nat → Nat → Nat} {o : m_Order} (h : IsOrd n le j m o) {a b : Nat} (ha : a < n) (hb : b < n) : m_Order__require o (a : Int) (b : Int) = some () := by
  unfold m_Order__require
  simp only [Option.bind_eq_bind, Option.bind_some]
  rw [forS_un]
  · rfl
  · intro x hx
    unfold m_Order__require_b1
    rw [h.members, tab_len]
    have : (decide (x < 0) || decide ((n : Int) ≤ x)) = false := by
      rcases List.mem_cons.mp hx with rfl | hx
      · simp; omega
      · rcases List.mem_cons.mp hx with rfl | hx
        · simp; omega
        · cases hx
    rw [this]; rfl
theorem below_eq {n : Nat} {le : Nat → Nat → Bool} {j m : Nat → Nat → Nat} {o : m_Order} (h : IsOrd n le j m o) {a b : Nat} (ha : a < n) (hb : b < n) : m_Order_below o (a : Int) (b : Int) = some (le a b) := by
  unfold m_Order_below
  rw [require_eq h ha hb, h.above]
  have h1 := atI2 (R := le) ha hb
  rw [h1]
  rfl
end My

namespace My
open PySem L2 Sim PyProof.Rows
theorem appW {α : Type} {xs : List α} {x : α} (h : xs.length < 100000) : appM xs x = some (xs ++ [x]) := by unfold appM; rw [sz_t h]; rfl
theorem catW {α : Type} {xs ys : List α} (h : xs.length + ys.length < 100000) : catM xs ys = some (xs ++ ys) := by unfold catM; rw [decide_eq_true h]; rfl
theorem serW {α β γ : Type} {f : α → γ} {g : β → γ} {a : β} : Sum.elim f g (Sum.inr a) = g a := Eq.trans (Eq.refl _) (Eq.refl _)
theorem orTW {b : Option Bool} : orO (some true) b = some true := rfl
theorem andFW {b : Option Bool} : andO (some false) b = some false := rfl
/-- a loop that leaves with false at the first item that is not P -/
theorem forL_ff {α ρ : Type} {body : α → Unit → Option (Stp Unit ρ)} {P : α → Bool} {r : ρ} : ∀ {xs : List α}, (∀ x ∈ xs, body x () = some (bif P x then .nx () else .rt r)) → forL body xs () = some (bif xs.all P then .inl () else .inr r)
  | [], _ => rfl
  | x :: xs, h => by
    show (body x () >>= stpK (forL body xs)) = _
    rw [h x (List.mem_cons_self ..), List.all_cons]
    cases P x with
    | true => exact forL_ff (xs := xs) fun y hy => h y (List.mem_cons_of_mem _ hy)
    | false => rfl
/-! ### records of rows -/
section
variable {n l : Nat}
theorem nat_rgW {d : List (Str × Int)} (t : Tb n l d) {q : Str × Int} (hq : q ∈ d) : q.2.toNat < n ∧ q.2 = (q.2.toNat : Int) := by
  obtain ⟨a, ha, e⟩ := t.rg q hq
  rw [e]
  exact ⟨by simpa using ha, by simp⟩
theorem rec_eqW {asks : List (Str × Int)} (t : Tb n l asks) (hl : l < 1000) (nm : Str) (r : Int) : m_Record___init__ nm asks r = some ⟨nm, asks, r⟩ := by
  have hln := t.ln
  unfold m_Record___init__
  simp only [Option.bind_eq_bind, bs]
  have loop : ∀ (xs : List (Str × Int)) (s : List Str), (s ++ xs.map (·.1)).Nodup → s.length + xs.length < 1000 → ∃ s', forS m_Record___init___b1 xs s = some s' := by
    intro xs
    induction xs with
    | nil => intro s _ _; exact ⟨s, rfl⟩
    | cons q xs ih =>
      intro s nd hs
      rw [List.length_cons] at hs
      show ∃ s', (m_Record___init___b1 q s >>= forS m_Record___init___b1 xs) = some s'
      unfold m_Record___init___b1
      have hq : q.1 ∉ s := fun hm => by
        rw [List.nodup_append] at nd
        exact nd.2.2 q.1 hm q.1 (by simp) rfl
      rw [any_mem, decide_eq_false hq]
      simp only [Option.bind_eq_bind, bs, cfa]
      rw [appW (by omega)]
      simp only [bs]
      exact ih (s ++ [q.1]) (by rw [List.append_assoc]; exact nd) (by rw [List.length_append, List.length_singleton]; omega)
  obtain ⟨s', e⟩ := loop asks [] t.nd (by show 0 + asks.length < 1000; omega)
  rw [e]
  simp only [bs]
  rw [mapS_map (xs := asks) (g := fun x => x) (by omega) (fun _ _ => rfl)]
  simp only [bs, List.map_id']
theorem answerW (r : m_Record) (k : Str) : m_Record_answer r k = some (lookM r.asks k) := by
  unfold m_Record_answer
  simp only [Option.bind_eq_bind, bs]
  have := forL_find (body := m_Record_answer_b1 k) (a := fun q : Str × Int => q) (p := fun q => decide (q.1 = k)) (g := fun q => some q.2) (xs := r.asks) (fun q _ => by
    unfold m_Record_answer_b1
    simp only [Option.bind_eq_bind, bs]
    cases decide (q.1 = k) <;> rfl)
  rw [List.map_id'] at this
  rw [this]
  unfold lookM
  cases r.asks.find? fun q => decide (q.1 = k) <;> rfl
/-! ### the common beginning -/
def pre {α : Type} [DecidableEq α] : List α → List α → Nat
  | x :: xs, y :: ys => if x = y then pre xs ys + 1 else 0
  | _, _ => 0
theorem pre_cons {α : Type} [DecidableEq α] {x y : α} {xs ys : List α} : pre (x :: xs) (y :: ys) = if x = y then pre xs ys + 1 else 0 := rfl
theorem pre_comm {α : Type} [DecidableEq α] : ∀ xs ys : List α, pre xs ys = pre ys xs
  | [], [] => rfl
  | [], _ :: _ => rfl
  | _ :: _, [] => rfl
  | x :: xs, y :: ys => by
    rw [pre_cons, pre_cons, pre_comm xs ys]
    by_cases e : x = y
    · rw [if_pos e, if_pos e.symm]
    · rw [if_neg e, if_neg fun z => e z.symm]
theorem pre_le {α : Type} [DecidableEq α] : ∀ xs ys : List α, pre xs ys ≤ xs.length ∧ pre xs ys ≤ ys.length
  | [], [] => ⟨Nat.le_refl _, Nat.le_refl _⟩
  | [], _ :: _ => ⟨Nat.le_refl _, Nat.zero_le _⟩
  | _ :: _, [] => ⟨Nat.zero_le _, Nat.le_refl _⟩
  | x :: xs, y :: ys => by
    have := pre_le xs ys
    rw [pre_cons, List.length_cons, List.length_cons]
    by_cases e : x = y
    · rw [if_pos e]; omega
    · rw [if_neg e]; omega
theorem pre_self {α : Type} [DecidableEq α] : ∀ xs : List α, pre xs xs = xs.length
  | [] => rfl
  | x :: xs => by rw [pre_cons, if_pos rfl, pre_self xs, List.length_cons]
/-- an item lies before the parting just where the items are equal -/
theorem pre_at {α : Type} [DecidableEq α] : ∀ {xs ys : List α} {k : Nat} (hx : k < xs.length) (hy : k < ys.length), k ≤ pre xs ys → (xs[k] = ys[k] ↔ k < pre xs ys)
  | x :: xs, y :: ys, 0, _, _, _ => by
    rw [pre_cons]
    show x = y ↔ _
    by_cases e : x = y
    · rw [if_pos e]; exact ⟨fun _ => by omega, fun _ => e⟩
    · rw [if_neg e]; exact ⟨fun z => absurd z e, fun z => by omega⟩
  | x :: xs, y :: ys, k + 1, hx, hy, hk => by
    rw [pre_cons] at hk ⊢
    rw [List.length_cons] at hx hy
    by_cases e : x = y
    · rw [if_pos e] at hk ⊢
      have := pre_at (xs := xs) (ys := ys) (k := k) (by omega) (by omega) (by omega)
      show xs[k] = ys[k] ↔ _
      rw [this]; omega
    · rw [if_neg e] at hk; omega
theorem same_loop : ∀ (xs ys : List (Str × Int)) (c : Int), ∃ z : Sum Int Int, forL m_same_start_b1 (List.zip xs ys) c = some z ∧ Sum.elim (fun s => s) (fun r => r) z = c + (pre xs ys : Int)
  | [], ys, c => ⟨.inl c, by rw [List.zip_nil_left]; rfl, by show c = c + ((0 : Nat) : Int); omega⟩
  | x :: xs, [], c => ⟨.inl c, by rw [List.zip_nil_right]; rfl, by show c = c + ((0 : Nat) : Int); omega⟩
  | x :: xs, y :: ys, c => by
    rw [List.zip_cons_cons]
    show ∃ z, (m_same_start_b1 (x, y) c >>= stpK (forL m_same_start_b1 (List.zip xs ys))) = some z ∧ _
    unfold m_same_start_b1
    simp only [Option.bind_eq_bind, bs]
    rw [pre_cons]
    by_cases e : x = y
    · rw [decide_eq_true e, if_pos e]
      obtain ⟨z, e1, e2⟩ := same_loop xs ys (c + 1)
      refine ⟨z, ?_, by rw [e2]; omega⟩
      exact e1
    · rw [decide_eq_false e, if_neg e]
      exact ⟨.inr c, rfl, by show c = c + ((0 : Nat) : Int); omega⟩
theorem same_eq (a b : m_Record) : m_same_start a b = some ((pre a.asks b.asks : Nat) : Int) := by
  unfold m_same_start
  simp only [Option.bind_eq_bind, bs]
  obtain ⟨z, e1, e2⟩ := same_loop a.asks b.asks 0
  rw [e1]
  simp only [bs]
  cases z with
  | inl s =>
    have : s = 0 + (pre a.asks b.asks : Int) := e2
    rw [this, Int.zero_add]; rfl
  | inr s =>
    have : s = 0 + (pre a.asks b.asks : Int) := e2
    rw [this, Int.zero_add]; rfl
/-- do they go on with different names, or only one of them -/
def shp (a b : List (Str × Int)) : Bool :=
  if h : pre a b < a.length ∧ pre a b < b.length then !decide ((a[pre a b]'h.1).1 = (b[pre a b]'h.2).1) else !decide (a.length = b.length)
theorem shp_comm (a b : List (Str × Int)) : shp a b = shp b a := by
  unfold shp
  by_cases h : pre a b < a.length ∧ pre a b < b.length
  · have h' : pre b a < b.length ∧ pre b a < a.length := by rw [pre_comm]; exact ⟨h.2, h.1⟩
    rw [dif_pos h, dif_pos h']
    have e := pre_comm a b
    have e1 : (b[pre b a]'h'.1) = b[pre a b]'h.2 := by congr 1; exact e.symm
    have e2 : (a[pre b a]'h'.2) = a[pre a b]'h.1 := by congr 1; exact e.symm
    rw [e1, e2]
    congr 1
    exact decide_eq_decide.mpr ⟨fun z => z.symm, fun z => z.symm⟩
  · have h' : ¬ (pre b a < b.length ∧ pre b a < a.length) := by rw [pre_comm]; exact fun z => h ⟨z.2, z.1⟩
    rw [dif_neg h, dif_neg h']
    congr 1
    exact decide_eq_decide.mpr ⟨fun z => z.symm, fun z => z.symm⟩
theorem shp_self (a : List (Str × Int)) : shp a a = false := by
  unfold shp
  rw [dif_neg (by rw [pre_self]; omega), decide_eq_true rfl]; rfl
theorem beqN (a b : Nat) : ((a : Int) == (b : Int)) = decide (a = b) := by
  by_cases e : a = b
  · rw [e, decide_eq_true rfl]; simp
  · rw [decide_eq_false e]; simp; omega
theorem shape_eq (a b : m_Record) : m_shape_clash a b = some (shp a.asks b.asks) := by
  unfold m_shape_clash
  rw [same_eq]
  simp only [Option.bind_eq_bind, bs, beqN]
  have hl := pre_le a.asks b.asks
  unfold shp
  by_cases h : pre a.asks b.asks < a.asks.length ∧ pre a.asks b.asks < b.asks.length
  · rw [dif_pos h, decide_eq_false (by omega), decide_eq_false (by omega)]
    simp only [Bool.or_self, cfa]
    rw [atI_nat h.1, atI_nat h.2]
    rfl
  · rw [dif_neg h]
    have : (decide (pre a.asks b.asks = a.asks.length) || decide (pre a.asks b.asks = b.asks.length)) = true := by
      by_cases h1 : pre a.asks b.asks = a.asks.length
      · rw [decide_eq_true h1]; rfl
      · rw [decide_eq_false h1, decide_eq_true (show pre a.asks b.asks = b.asks.length by omega)]; rfl
    rw [this]
    rfl
/-! ### falling -/
variable {le : Nat → Nat → Bool} {j m : Nat → Nat → Nat} {o : m_Order}
def fal (le : Nat → Nat → Bool) (a : List (Str × Int)) (ra : Nat) (b : List (Str × Int)) (rb : Nat) : Bool :=
  (a.all fun q => match lookM b q.1 with | some v => le q.2.toNat v.toNat | none => true) && !(le ra rb)
theorem falls_eq {a b : m_Record} {l2 ra rb : Nat} (h : IsOrd n le j m o) (ta : Tb n l a.asks) (tb : Tb n l2 b.asks) (ha : a.result = (ra : Int)) (hb : b.result = (rb : Int)) (hra : ra < n) (hrb : rb < n) : m_falls a b o = some (fal le a.asks ra b.asks rb) := by
  unfold m_falls
  simp only [Option.bind_eq_bind, bs]
  rw [forL_ff (P := fun q => match lookM b.asks q.1 with | some v => le q.2.toNat v.toNat | none => true) (r := false)]
  · simp only [bs]
    unfold fal
    cases (a.asks.all fun q => match lookM b.asks q.1 with | some v => le q.2.toNat v.toNat | none => true) with
    | true =>
      simp only [ctr, sel]
      rw [ha, hb, below_eq h hra hrb]
      rfl
    | false => rfl
  · intro q hq
    unfold m_falls_b1
    rw [answerW]
    simp only [Option.bind_eq_bind, bs]
    cases e : lookM b.asks q.1 with
    | none => rfl
    | some v =>
      obtain ⟨c, hc, ec⟩ := tb.rg _ (look_mem e)
      replace ec : v = (c : Int) := ec
      obtain ⟨h3, h4⟩ := nat_rgW ta hq
      subst ec
      have : m_Order_below o q.2 (c : Int) = some (le q.2.toNat c) := by
        rw [h4]
        exact below_eq h h3 hc
      simp only [Option.isSome_some, andT, bs, this, Int.toNat_natCast]
      cases le q.2.toNat c <;> rfl
end
/-! ### rows drawn -/
/-- a row of the names -/
structure Row (n : Nat) (ns : List Str) (d : List (Str × Int)) : Prop where
  t : Tb n ns.length d
  k : ∀ q ∈ d, q.1 ∈ ns
theorem Row.mk' {n : Nat} {ns : List Str} {d : List (Str × Int)} (nd : (d.map (·.1)).Nodup) (rg : ∀ q ∈ d, ∃ a : Nat, a < n ∧ q.2 = (a : Int)) (k : ∀ q ∈ d, q.1 ∈ ns) : Row n ns d :=
  ⟨⟨nd, rg, by
    have := lsub nd (l2 := ns) (fun x hx => by
      obtain ⟨q, hq, rfl⟩ := List.mem_map.mp hx
      exact k q hq)
    rwa [List.length_map] at this⟩, k⟩
theorem Row.sub {n : Nat} {ns : List Str} {d e : List (Str × Int)} (h : Row n ns d) (s : e.Sublist d) : Row n ns e :=
  Row.mk' (h.t.nd.sublist (s.map _)) (fun q hq => h.t.rg q (s.subset hq)) fun q hq => h.k q (s.subset hq)
theorem Row.nil {n : Nat} {ns : List Str} : Row n ns [] := Row.mk' List.nodup_nil (fun q hq => (nomatch hq)) fun q hq => (nomatch hq)
theorem Row.add {n a : Nat} {ns : List Str} {d : List (Str × Int)} {k : Str} (h : Row n ns d) (hk : k ∈ ns) (hn : k ∉ d.map (·.1)) (ha : a < n) : Row n ns (d ++ [(k, (a : Int))]) :=
  Row.mk' (by
    rw [List.map_append, List.nodup_append]
    exact ⟨h.t.nd, by simp, fun x hx y hy => by
      have : y = k := by simpa using hy
      rw [this]
      exact fun e => hn (e ▸ hx)⟩) (fun q hq => by
    rcases List.mem_append.mp hq with hq | hq
    · exact h.t.rg q hq
    · rw [List.mem_singleton.mp hq]; exact ⟨a, ha, rfl⟩) fun q hq => by
    rcases List.mem_append.mp hq with hq | hq
    · exact h.k q hq
    · rw [List.mem_singleton.mp hq]; exact hk
/-- what two records' clash is -/
def due (le : Nat → Nat → Bool) (a : List (Str × Int)) (ra : Nat) (b : List (Str × Int)) (rb : Nat) : Option Str :=
  bif shp a b then some ("shape" : Str) else bif (fal le a ra b rb || fal le b rb a ra) then some ("values" : Str) else none
theorem due_comm (le : Nat → Nat → Bool) (a : List (Str × Int)) (ra : Nat) (b : List (Str × Int)) (rb : Nat) : due le a ra b rb = due le b rb a ra := by
  unfold due
  rw [shp_comm, Bool.or_comm]
theorem clash_eq {n l l2 : Nat} {le : Nat → Nat → Bool} {j m : Nat → Nat → Nat} {o : m_Order} {a b : m_Record} {ra rb : Nat} (h : IsOrd n le j m o) (ta : Tb n l a.asks) (tb : Tb n l2 b.asks) (ha : a.result = (ra : Int)) (hb : b.result = (rb : Int)) (hra : ra < n) (hrb : rb < n) :
    m_clash a b o = some (if a.name = b.name then due le a.asks ra b.asks rb else none) := by
  unfold m_clash
  simp only [Option.bind_eq_bind, bs]
  by_cases hn : a.name = b.name
  · rw [decide_eq_true hn, if_pos hn, shape_eq, falls_eq h ta tb ha hb hra hrb, falls_eq h tb ta hb ha hrb hra]
    simp only [bs, Bool.not_true, cfa]
    unfold due
    cases shp a.asks b.asks with
    | true => rfl
    | false =>
      simp only [cfa]
      cases fal le a.asks ra b.asks rb <;> cases fal le b.asks rb a.asks ra <;> rfl
  · rw [decide_eq_false hn, if_neg hn]
    rfl
end My

/-! trees of nodes that are run, what they ask -/
namespace My
open PySem L2 Sim PyProof.Rows
/-! ### nodes drawn -/
structure NdOk (n c : Nat) (ns : List Str) (q : Str × List Int) : Prop where
  nm : q.1 ∈ ns
  ln : q.2.length = n
  en : ∀ e ∈ q.2, ∃ v : Nat, e = (v : Int) ∧ (v < n ∨ (n ≤ v ∧ v - n < c))
theorem mod4 (v : Nat) : ∃ c : Nat, c < 4 ∧ modM ((v : Int) + 1) 4 = some (c : Int) := by
  refine ⟨(v + 1) % 4, Nat.mod_lt _ (by omega), ?_⟩
  unfold modM
  rw [if_pos (by decide)]
  congr 1
theorem nodes_b2 {n c k : Nat} {p : List Int} {row : List Int} (x : Int) (hn : 0 < n) (hk : k < c) (hr : row.length < 1000) (h : ∀ e ∈ row, ∃ v : Nat, e = (v : Int) ∧ (v < n ∨ (n ≤ v ∧ v - n < c))) :
    ∃ p' e, m__law_nodes_b2 (n : Int) (k : Int) (c : Int) x (p, row) = some (p', row ++ [e]) ∧ ∃ v : Nat, e = (v : Int) ∧ (v < n ∨ (n ≤ v ∧ v - n < c)) := by
  unfold m__law_nodes_b2
  simp only [Option.bind_eq_bind, bs]
  obtain ⟨v, p2, e, hv⟩ := draw_eq p hn
  rw [e]
  simp only [bs]
  by_cases h1 : ((k : Int) + 1 < (c : Int))
  · rw [decide_eq_true h1]
    simp only [ctr]
    obtain ⟨t, p3, e, ht⟩ := draw_lit p2 2 (by decide) (z := 2) rfl
    rw [e]
    simp only [bs]
    cases ((t : Int) == 1) with
    | true =>
      simp only [ctr]
      obtain ⟨v2, p4, e, hv2⟩ := draw_eq p3 (n := c - k - 1) (by omega)
      rw [show (c : Int) - (k : Int) - 1 = ((c - k - 1 : Nat) : Int) by omega, e]
      simp only [bs]
      rw [appW (by omega)]
      exact ⟨_, _, rfl, n + k + 1 + v2, by omega, .inr ⟨by omega, by omega⟩⟩
    | false =>
      simp only [cfa, bs]
      rw [appW (by omega)]
      exact ⟨_, _, rfl, v, rfl, .inl hv⟩
  · rw [decide_eq_false h1]
    simp only [cfa, bs]
    rw [appW (by omega)]
    exact ⟨_, _, rfl, v, rfl, .inl hv⟩
theorem nodes_eq (pot : List Int) {n : Nat} {ns : List Str} (hn : 0 < n) (hn2 : n ≤ 100) (h0 : 0 < ns.length) (hs : ns.length ≤ 100) : ∃ nd p', m__law_nodes pot ns (n : Int) = some (nd, p') ∧ nd.length < 4 ∧ ∀ q ∈ nd, NdOk n nd.length ns q := by
  unfold m__law_nodes
  simp only [Option.bind_eq_bind, bs]
  obtain ⟨v, p1, e, hv⟩ := draw_lit pot 4 (by decide) (z := 4) rfl
  rw [e]
  simp only [bs]
  obtain ⟨c, hc, e⟩ := mod4 v
  rw [e]
  simp only [bs]
  rw [rngM0 (by omega)]
  simp only [bs]
  obtain ⟨s, e, h1⟩ := forS_keep (body := m__law_nodes_b1 (n : Int) (c : Int) ns) (xs := tab c fun i => (i : Int)) (k := 0) (I := fun j s => s.1.length = j ∧ ∀ q ∈ s.1, NdOk n c ns q) (s := ([], p1)) ⟨rfl, fun q hq => (nomatch hq)⟩ (fun x hx j s _ hj hs' => by
    rw [tab_len] at hj
    obtain ⟨k, hk, rfl⟩ := tab_mem.mp hx
    obtain ⟨nd, p⟩ := s
    obtain ⟨a1, a2⟩ := hs'
    replace a1 : nd.length = j := a1
    replace a2 : ∀ q ∈ nd, NdOk n c ns q := a2
    unfold m__law_nodes_b1
    simp only [Option.bind_eq_bind, bs]
    rw [rngM0 (by omega)]
    simp only [bs]
    obtain ⟨s2, e, b1⟩ := forS_keep (body := m__law_nodes_b2 (n : Int) (k : Int) (c : Int)) (xs := tab n fun i => (i : Int)) (k := 0) (I := fun j s => s.2.length = j ∧ ∀ e ∈ s.2, ∃ v : Nat, e = (v : Int) ∧ (v < n ∨ (n ≤ v ∧ v - n < c))) (s := (p, [])) ⟨rfl, fun q hq => (nomatch hq)⟩ (fun x _ j s _ hj hs' => by
      rw [tab_len] at hj
      obtain ⟨p, row⟩ := s
      obtain ⟨a1, a2⟩ := hs'
      replace a1 : row.length = j := a1
      obtain ⟨p', e, e1, hv⟩ := nodes_b2 (p := p) (row := row) x hn hk (by omega) a2
      refine ⟨_, e1, by show (row ++ [e]).length = j + 1; rw [List.length_append, a1]; rfl, fun z hz => ?_⟩
      rcases List.mem_append.mp hz with hz | hz
      · exact a2 z hz
      · rw [List.mem_singleton.mp hz]; exact hv)
    rw [e]
    simp only [bs]
    rw [tab_len] at b1
    obtain ⟨i, p3, e, hi⟩ := draw_eq s2.1 h0
    rw [e]
    simp only [bs]
    rw [atI_nat hi]
    simp only [bs]
    rw [appW (by omega)]
    refine ⟨_, rfl, by show (nd ++ [_]).length = j + 1; rw [List.length_append, a1]; rfl, fun z hz => ?_⟩
    have hz : z ∈ nd ++ [(ns[i], s2.2)] := hz
    rcases List.mem_append.mp hz with hz | hz
    · exact a2 z hz
    · rw [List.mem_singleton.mp hz]; exact ⟨List.getElem_mem hi, by rw [b1.1]; omega, b1.2⟩)
  rw [e]
  simp only [bs]
  rw [tab_len] at h1
  have hl : s.1.length = c := by rw [h1.1]; omega
  exact ⟨_, _, rfl, by rw [hl]; exact hc, by rw [hl]; exact h1.2⟩
/-! ### a run -/
def nam (nd : List (Str × List Int)) (a : Nat) : Str := (nd.getD a ("", [])).1
def ent (nd : List (Str × List Int)) (a v : Nat) : Nat := ((nd.getD a ("", [])).2.getD v 0).toNat
def addA (s : List (Str × Int)) (k : Str) (v : Nat) : List (Str × Int) := if k ∈ s.map (·.1) then s else s ++ [(k, (v : Int))]
def runN (nd : List (Str × List Int)) (n : Nat) (T : Str → Nat) : Nat → Nat → List (Str × Int) → Nat × List (Str × Int)
  | 0, _, s => (0, s)
  | k + 1, a, s => if ent nd a (T (nam nd a)) < n then (ent nd a (T (nam nd a)), addA s (nam nd a) (T (nam nd a))) else runN nd n T k (ent nd a (T (nam nd a)) - n) (addA s (nam nd a) (T (nam nd a)))
/-- told as T tells -/
def Con (T : Str → Nat) (s : List (Str × Int)) : Prop := ∀ q ∈ s, q.2 = (T q.1 : Int)
theorem Con.add {T : Str → Nat} {s : List (Str × Int)} {k : Str} (h : Con T s) : Con T (addA s k (T k)) := by
  unfold addA
  split
  · exact h
  · intro q hq
    rcases List.mem_append.mp hq with hq | hq
    · exact h q hq
    · rw [List.mem_singleton.mp hq]
theorem addA_pre (s : List (Str × Int)) (k : Str) (v : Nat) : ∃ e, addA s k v = s ++ e := by
  unfold addA
  split
  · exact ⟨[], by simp⟩
  · exact ⟨_, rfl⟩
theorem addA_len (s : List (Str × Int)) (k : Str) (v : Nat) : (addA s k v).length ≤ s.length + 1 := by
  unfold addA
  split
  · omega
  · simp
section
variable {nd : List (Str × List Int)} {n : Nat} {ns : List Str} {T : Str → Nat}
theorem run_pre : ∀ (k a : Nat) (s : List (Str × Int)), ∃ e, (runN nd n T k a s).2 = s ++ e
  | 0, a, s => ⟨[], by simp [runN]⟩
  | k + 1, a, s => by
    obtain ⟨e1, h1⟩ := addA_pre s (nam nd a) (T (nam nd a))
    unfold runN
    split
    · exact ⟨e1, h1⟩
    · obtain ⟨e2, h2⟩ := run_pre k (ent nd a (T (nam nd a)) - n) (addA s (nam nd a) (T (nam nd a)))
      exact ⟨e1 ++ e2, by rw [h2, h1, List.append_assoc]⟩
theorem nd_at (h : ∀ q ∈ nd, NdOk n nd.length ns q) {a : Nat} (ha : a < nd.length) : NdOk n nd.length ns (nd[a]) ∧ nam nd a = nd[a].1 ∧ ∀ v (hv : v < n), ∃ e : Nat, nd[a].2[v]? = some (e : Int) ∧ ent nd a v = e ∧ (e < n ∨ (n ≤ e ∧ e - n < nd.length)) := by
  have o := h _ (List.getElem_mem ha)
  have e0 : nd.getD a ("", []) = nd[a] := by simp [List.getD_eq_getElem?_getD, List.getElem?_eq_getElem ha]
  refine ⟨o, by unfold nam; rw [e0], fun v hv => ?_⟩
  have hv2 : v < nd[a].2.length := by rw [o.ln]; exact hv
  obtain ⟨e, e1, e2⟩ := o.en _ (List.getElem_mem hv2)
  refine ⟨e, by rw [List.getElem?_eq_getElem hv2, e1], ?_, e2⟩
  unfold ent
  rw [e0, List.getD_eq_getElem?_getD, List.getElem?_eq_getElem hv2, e1]
  simp
theorem run_row (h : ∀ q ∈ nd, NdOk n nd.length ns q) (hn : 0 < n) (hT : ∀ x ∈ ns, T x < n) : ∀ (k a : Nat) (s : List (Str × Int)), (a < nd.length ∨ k = 0) → Row n ns s → Row n ns (runN nd n T k a s).2 ∧ (runN nd n T k a s).1 < n
  | 0, a, s, _, r => ⟨r, hn⟩
  | k + 1, a, s, ha, r => by
    have ha : a < nd.length := by rcases ha with ha | ha; exact ha; cases ha
    obtain ⟨o, e1, e2⟩ := nd_at h ha
    have hm : nam nd a ∈ ns := by rw [e1]; exact o.nm
    obtain ⟨e, _, e3, e4⟩ := e2 _ (hT _ hm)
    have r2 : Row n ns (addA s (nam nd a) (T (nam nd a))) := by
      unfold addA
      split
      · exact r
      · rename_i hk
        exact r.add hm hk (hT _ hm)
    unfold runN
    split
    · rename_i hl
      exact ⟨r2, hl⟩
    · rename_i hl
      rw [e3] at hl ⊢
      exact run_row h hn hT k _ _ (.inl (by omega)) r2
/-! ### two runs of one tree -/
theorem pre_app {α : Type} [DecidableEq α] {x y : α} (h : x ≠ y) : ∀ {s e1 e2 : List α}, pre (s ++ x :: e1) (s ++ y :: e2) = s.length
  | [], e1, e2 => by show pre (x :: e1) (y :: e2) = 0; rw [pre_cons, if_neg h]
  | z :: s, e1, e2 => by
    show pre (z :: (s ++ x :: e1)) (z :: (s ++ y :: e2)) = s.length + 1
    rw [pre_cons, if_pos rfl, pre_app h]
theorem shp_of {a b : List (Str × Int)} {k : Nat} {x y : Str × Int} (hk : pre a b = k) (h1 : a[k]? = some x) (h2 : b[k]? = some y) (e : x.1 = y.1) : shp a b = false := by
  subst hk
  obtain ⟨l1, e1⟩ := List.getElem?_eq_some_iff.mp h1
  obtain ⟨l2, e2⟩ := List.getElem?_eq_some_iff.mp h2
  unfold shp
  rw [dif_pos ⟨l1, l2⟩, e1, e2, decide_eq_true e]
  rfl
theorem twin {T2 : Str → Nat} (h : ∀ q ∈ nd, NdOk n nd.length ns q) (hT : ∀ x ∈ ns, T x < n) : ∀ (k a : Nat) (s : List (Str × Int)), (a < nd.length ∨ k = 0) → Con T s → Con T2 s → shp (runN nd n T k a s).2 (runN nd n T2 k a s).2 = false
  | 0, a, s, _, _, _ => shp_self s
  | k + 1, a, s, ha, c1, c2 => by
    have ha : a < nd.length := by rcases ha with ha | ha; exact ha; cases ha
    obtain ⟨o, e1, e2⟩ := nd_at h ha
    have hm : nam nd a ∈ ns := by rw [e1]; exact o.nm
    obtain ⟨e, _, e3, e4⟩ := e2 _ (hT _ hm)
    by_cases q : T (nam nd a) = T2 (nam nd a)
    · unfold runN
      rw [← q]
      split
      · exact shp_self _
      · rename_i hl
        have k2 : Con T2 (addA s (nam nd a) (T (nam nd a))) := by rw [q]; exact c2.add
        rw [e3] at hl ⊢
        exact twin h hT k _ _ (.inl (by omega)) c1.add k2
    · have hk : nam nd a ∉ s.map (·.1) := fun z => by
        obtain ⟨p, hp, ep⟩ := List.mem_map.mp z
        have h1 := c1 p hp
        rw [c2 p hp] at h1
        have ep : p.1 = nam nd a := ep
        rw [ep] at h1
        exact q (by omega)
      have key : ∀ (U : Str → Nat), ∃ e, (runN nd n U (k + 1) a s).2 = s ++ (nam nd a, (U (nam nd a) : Int)) :: e := fun U => by
        have ea : addA s (nam nd a) (U (nam nd a)) = s ++ [(nam nd a, (U (nam nd a) : Int))] := by unfold addA; rw [if_neg hk]
        unfold runN
        split
        · exact ⟨[], ea⟩
        · obtain ⟨e, he⟩ := run_pre (nd := nd) (n := n) (T := U) k (ent nd a (U (nam nd a)) - n) (addA s (nam nd a) (U (nam nd a)))
          exact ⟨e, by rw [he, ea, List.append_assoc]; rfl⟩
      obtain ⟨e5, h5⟩ := key T
      obtain ⟨e6, h6⟩ := key T2
      rw [h5, h6]
      exact shp_of (pre_app fun z => q (by have := (Prod.mk.inj z).2; omega)) (k := s.length) (x := (nam nd a, (T (nam nd a) : Int))) (y := (nam nd a, (T2 (nam nd a) : Int))) (by simp) (by simp) rfl
/-! ### the mirror's run -/
theorem look_eq {s d : List (Str × Int)} {nm : Str} (c : Con T s) (hl : s.length < 1000) (hd : lookM d nm = some (T nm : Int)) : m__law_look s d nm = some ((T nm : Int), addA s nm (T nm)) := by
  unfold m__law_look
  simp only [Option.bind_eq_bind, bs]
  have := forL_find (body := m__law_look_b1 nm s) (a := fun q : Str × Int => q) (p := fun q => decide (q.1 = nm)) (g := fun q => (q.2, s)) (xs := s) (fun q _ => by
    unfold m__law_look_b1
    simp only [Option.bind_eq_bind, bs]
    cases decide (q.1 = nm) <;> rfl)
  rw [List.map_id'] at this
  rw [this]
  cases e : s.find? fun q => decide (q.1 = nm) with
  | some q =>
    have hm := List.mem_of_find?_eq_some e
    have hq : q.1 = nm := by simpa using List.find?_some e
    have hk : nm ∈ s.map (·.1) := List.mem_map.mpr ⟨q, hm, hq⟩
    unfold addA
    rw [if_pos hk]
    show some (q.2, s) = _
    rw [c q hm, hq]
  | none =>
    have hk : nm ∉ s.map (·.1) := fun z => by
      obtain ⟨q, hm, hq⟩ := List.mem_map.mp z
      have := List.find?_eq_none.mp e q hm
      exact this (by simpa using hq)
    unfold addA
    rw [if_neg hk, hd]
    show (appM s (nm, (T nm : Int))).bind _ = _
    rw [appW (by omega)]
    rfl
theorem run_loop {d : List (Str × Int)} (h : ∀ q ∈ nd, NdOk n nd.length ns q) (hT : ∀ x ∈ ns, T x < n) (hd : ∀ x ∈ ns, lookM d x = some (T x : Int)) : ∀ (xs : List Int) (a : Nat) (s : List (Str × Int)), (a < nd.length ∨ xs.length = 0) → Con T s → s.length + xs.length < 1000 →
    (forL (m__law_run_b1 nd (fun s9 nm => m__law_look s9 d nm) (n : Int)) xs (s, (a : Int)) >>= Sum.elim (fun z => some ((0 : Int), z.1)) (fun r => some r)) = some ((((runN nd n T xs.length a s).1 : Nat) : Int), (runN nd n T xs.length a s).2)
  | [], a, s, _, _, _ => rfl
  | x :: xs, a, s, ha, c, hl => by
    have ha : a < nd.length := by rcases ha with ha | ha; exact ha; cases ha
    obtain ⟨o, e1, e2⟩ := nd_at h ha
    have hm : nam nd a ∈ ns := by rw [e1]; exact o.nm
    obtain ⟨e, e5, e3, e4⟩ := e2 _ (hT _ hm)
    rw [List.length_cons] at hl
    show ((m__law_run_b1 nd (fun s9 nm => m__law_look s9 d nm) (n : Int) x (s, (a : Int)) >>= stpK (forL (m__law_run_b1 nd (fun s9 nm => m__law_look s9 d nm) (n : Int)) xs)) >>= _) = _
    unfold m__law_run_b1
    simp only [Option.bind_eq_bind]
    rw [atI_nat ha]
    simp only [bs]
    rw [← e1, look_eq c (by omega) (hd _ hm)]
    simp only [bs]
    have hv2 : T (nam nd a) < nd[a].2.length := by rw [o.ln]; exact hT _ hm
    have e6 : nd[a].2[T (nam nd a)] = (e : Int) := by
      rw [List.getElem?_eq_getElem hv2] at e5
      exact Option.some.inj e5
    rw [atI_nat hv2, e6]
    simp only [bs]
    rw [List.length_cons]
    unfold runN
    rw [e3]
    by_cases hlt : e < n
    · rw [decide_eq_true (show (e : Int) < (n : Int) by omega), if_pos hlt]
      rfl
    · rw [decide_eq_false (show ¬ (e : Int) < (n : Int) by omega), if_neg hlt]
      simp only [cfa]
      have al := addA_len s (nam nd a) (T (nam nd a))
      have ih := run_loop h hT hd xs (e - n) (addA s (nam nd a) (T (nam nd a))) (.inl (by omega)) c.add (by omega)
      rw [show (e : Int) - (n : Int) = ((e - n : Nat) : Int) by omega]
      exact ih
theorem run_eq {d : List (Str × Int)} (h : ∀ q ∈ nd, NdOk n nd.length ns q) (hl : nd.length < 100) (hT : ∀ x ∈ ns, T x < n) (hd : ∀ x ∈ ns, lookM d x = some (T x : Int)) :
    m__law_run (fun s9 nm => m__law_look s9 d nm) nd (n : Int) [] = some ((((runN nd n T nd.length 0 []).1 : Nat) : Int), (runN nd n T nd.length 0 []).2) := by
  unfold m__law_run
  simp only [Option.bind_eq_bind, bs]
  rw [rngM0 (by omega)]
  simp only [bs]
  have := run_loop (xs := tab nd.length fun i => (i : Int)) h hT hd 0 [] (by rw [tab_len]; omega) (fun q hq => (nomatch hq)) (by rw [tab_len]; simp; omega)
  rw [tab_len] at this
  exact this
end
end My

namespace My
open PySem L2 Sim PyProof.Rows
/-! ### all tables -/
def tbs (n : Nat) : List Str → List (List (Str × Int)) → List (List (Str × Int))
  | [], ts => ts
  | x :: xs, ts => tbs n xs (ts.flatMap fun t => tab n fun v => t ++ [(x, (v : Int))])
theorem tabs_b2 {n : Nat} {x : Str} {t : List (Str × Int)} {s : List (List (Str × Int))} (hn : n ≤ 100) (hx : x ∉ t.map (·.1)) (ht : t.length < 1000) (hs : s.length < 90000) : m__law_tables_b2 (n : Int) x t s = some (s ++ tab n fun v => t ++ [(x, (v : Int))]) := by
  unfold m__law_tables_b2
  simp only [Option.bind_eq_bind, bs]
  rw [rngM0 (by omega)]
  simp only [bs]
  have := forS_tab (body := m__law_tables_b3 t x) (a := fun i : Nat => (i : Int)) (n := n) (S := fun i => s ++ tab i fun v => t ++ [(x, (v : Int))]) (fun i hi => by
    unfold m__law_tables_b3
    simp only [Option.bind_eq_bind, bs]
    rw [putMM_ok (by omega)]
    simp only [bs]
    rw [put_new hx, appW (by rw [List.length_append, tab_len]; omega)]
    simp only [bs]
    rw [List.append_assoc]
    congr 2
    unfold tab
    rw [List.range_succ, List.map_append]
    rfl)
  have e0 : (tab 0 fun v => t ++ [(x, (v : Int))]) = [] := rfl
  simp only [e0, List.append_nil] at this
  rw [this]
  rfl
theorem tabs_b1 {n B : Nat} {x : Str} {ts : List (List (Str × Int))} (hn : n ≤ 100) (hx : ∀ t ∈ ts, x ∉ t.map (·.1) ∧ t.length < 1000) (hs : ts.length * n < 90000) : m__law_tables_b1 (n : Int) x ts = some (ts.flatMap fun t => tab n fun v => t ++ [(x, (v : Int))]) := by
  unfold m__law_tables_b1
  simp only [Option.bind_eq_bind, bs]
  have hl := flat_len (xs := ts) (f := fun t => tab n fun v => t ++ [(x, (v : Int))]) (k := n) (fun t _ => by rw [tab_len]; exact Nat.le_refl _)
  have := forS_flat (body := m__law_tables_b2 (n : Int) x) (a := fun t : List (Str × Int) => t) (f := fun t => tab n fun v => t ++ [(x, (v : Int))]) (B := 89999) (xs := ts) (s := []) (fun t ht s hs => by
    obtain ⟨h1, h2⟩ := hx t ht
    exact tabs_b2 hn h1 h2 (by omega)) (by show 0 + _ ≤ _; omega)
  rw [List.map_id'] at this
  rw [this]
  rfl
theorem tabs_loop {n : Nat} (hn : n ≤ 6) : ∀ {xs pre : List Str} {ts : List (List (Str × Int))}, (pre ++ xs).Nodup → (∀ t ∈ ts, t.map (·.1) = pre) → ts.length ≤ 6 ^ pre.length → pre.length + xs.length ≤ 4 → forS (m__law_tables_b1 (n : Int)) xs ts = some (tbs n xs ts)
  | [], _, _, _, _, _, _ => rfl
  | x :: xs, pr, ts, nd, hk, hl, h4 => by
    rw [List.length_cons] at h4
    have hx : x ∉ pr := fun z => by
      rw [List.nodup_append] at nd
      exact nd.2.2 x z x (List.mem_cons_self ..) rfl
    have hp : 6 ^ pr.length ≤ 6 ^ 3 := Nat.pow_le_pow_right (by omega) (by omega)
    have hm : ts.length * n ≤ 6 ^ pr.length * 6 := Nat.mul_le_mul hl hn
    show (m__law_tables_b1 (n : Int) x ts >>= forS (m__law_tables_b1 (n : Int)) xs) = _
    rw [tabs_b1 (B := 0) (by omega) (fun t ht => ⟨by rw [hk t ht]; exact hx, by
      have := congrArg List.length (hk t ht)
      rw [List.length_map] at this
      omega⟩) (by omega)]
    refine tabs_loop hn (pre := pr ++ [x]) (by rw [List.append_assoc]; exact nd) (fun t ht => ?_) ?_ (by rw [List.length_append]; simp; omega)
    · obtain ⟨t0, h0, h1⟩ := List.mem_flatMap.mp ht
      obtain ⟨v, _, rfl⟩ := tab_mem.mp h1
      rw [List.map_append, hk t0 h0]
      rfl
    · have := flat_len (xs := ts) (f := fun t => tab n fun v => t ++ [(x, (v : Int))]) (k := n) (fun t _ => by rw [tab_len]; exact Nat.le_refl _)
      rw [List.length_append, List.length_singleton, Nat.pow_succ]
      omega
theorem tbs_sound {n : Nat} : ∀ {xs pre : List Str} {ts : List (List (Str × Int))}, (∀ t ∈ ts, t.map (·.1) = pre ∧ ∀ q ∈ t, ∃ a : Nat, a < n ∧ q.2 = (a : Int)) → ∀ t ∈ tbs n xs ts, t.map (·.1) = pre ++ xs ∧ ∀ q ∈ t, ∃ a : Nat, a < n ∧ q.2 = (a : Int)
  | [], _, _, h, t, ht => by rw [List.append_nil]; exact h t ht
  | x :: xs, pr, ts, h, t, ht => by
    have := tbs_sound (xs := xs) (pre := pr ++ [x]) (ts := ts.flatMap fun t => tab n fun v => t ++ [(x, (v : Int))]) (fun t ht => by
      obtain ⟨t0, h0, h1⟩ := List.mem_flatMap.mp ht
      obtain ⟨v, hv, rfl⟩ := tab_mem.mp h1
      obtain ⟨k1, k2⟩ := h t0 h0
      refine ⟨by rw [List.map_append, k1]; rfl, fun q hq => ?_⟩
      rcases List.mem_append.mp hq with hq | hq
      · exact k2 q hq
      · rw [List.mem_singleton.mp hq]; exact ⟨v, hv, rfl⟩) t ht
    rw [List.append_assoc] at this
    exact this
theorem tbs_full {n : Nat} {g : Str → Nat} : ∀ {xs : List Str} {ts : List (List (Str × Int))} {t : List (Str × Int)}, t ∈ ts → (∀ x ∈ xs, g x < n) → t ++ xs.map (fun x => (x, (g x : Int))) ∈ tbs n xs ts
  | [], ts, t, ht, _ => by show t ++ [] ∈ ts; rw [List.append_nil]; exact ht
  | x :: xs, ts, t, ht, hg => by
    have := tbs_full (g := g) (xs := xs) (ts := ts.flatMap fun t => tab n fun v => t ++ [(x, (v : Int))]) (t := t ++ [(x, (g x : Int))]) (List.mem_flatMap.mpr ⟨t, ht, tab_mem.mpr ⟨g x, hg x (List.mem_cons_self ..), rfl⟩⟩) fun y hy => hg y (List.mem_cons_of_mem _ hy)
    rw [List.append_assoc] at this
    exact this
theorem tbs_len {n : Nat} (hn : n ≤ 6) : ∀ {xs : List Str} {ts : List (List (Str × Int))} {j : Nat}, ts.length ≤ 6 ^ j → (tbs n xs ts).length ≤ 6 ^ (j + xs.length)
  | [], _, _, h => h
  | x :: xs, ts, j, h => by
    have hl := flat_len (xs := ts) (f := fun t => tab n fun v => t ++ [(x, (v : Int))]) (k := n) (fun t _ => by rw [tab_len]; exact Nat.le_refl _)
    have hm : ts.length * n ≤ 6 ^ j * 6 := Nat.mul_le_mul h hn
    have := tbs_len hn (xs := xs) (ts := ts.flatMap fun t => tab n fun v => t ++ [(x, (v : Int))]) (j := j + 1) (by rw [Nat.pow_succ]; omega)
    rw [List.length_cons, show j + (xs.length + 1) = j + 1 + xs.length by omega]
    exact this
theorem tables_eq {n : Nat} {ns : List Str} (hn : n ≤ 6) (nd : ns.Nodup) (hs : ns.length ≤ 4) : m__law_tables ns (n : Int) = some (tbs n ns [[]]) := by
  unfold m__law_tables
  simp only [Option.bind_eq_bind, bs]
  rw [tabs_loop hn (pre := []) nd (fun t ht => by rw [List.mem_singleton.mp ht]; rfl) (by simp) (by simpa using hs)]
  rfl
/-! ### parted -/
theorem forL_any {α ρ : Type} {body : α → Unit → Option (Stp Unit ρ)} {P : α → Bool} {r : ρ} : ∀ {xs : List α}, (∀ x ∈ xs, body x () = some (bif P x then .rt r else .nx ())) → forL body xs () = some (bif xs.any P then .inr r else .inl ())
  | [], _ => rfl
  | x :: xs, h => by
    show (body x () >>= stpK (forL body xs)) = _
    rw [h x (List.mem_cons_self ..), List.any_cons]
    cases P x with
    | true => rfl
    | false => exact forL_any (xs := xs) fun y hy => h y (List.mem_cons_of_mem _ hy)
def mt (d t : List (Str × Int)) : Bool := d.all fun q => decide (lookM t q.1 = some q.2)
def vl (t : List (Str × Int)) (x : Str) : Nat := ((lookM t x).getD 0).toNat
section
variable {n : Nat} {ns : List Str}
/-- a whole table -/
structure Full (n : Nat) (ns : List Str) (t : List (Str × Int)) : Prop where
  k : t.map (·.1) = ns
  v : ∀ q ∈ t, ∃ a : Nat, a < n ∧ q.2 = (a : Int)
theorem Full.at_ {t : List (Str × Int)} (f : Full n ns t) (nd : ns.Nodup) {x : Str} (hx : x ∈ ns) : lookM t x = some (vl t x : Int) ∧ vl t x < n := by
  have hx : x ∈ t.map (·.1) := by rw [f.k]; exact hx
  obtain ⟨q, hq, rfl⟩ := List.mem_map.mp hx
  obtain ⟨a, ha, e⟩ := f.v q hq
  have hl : lookM t q.1 = some q.2 := look_nd (by rw [f.k]; exact nd) hq
  unfold vl
  rw [hl, e]
  simp [ha]
theorem full_tbs {t : List (Str × Int)} (h : t ∈ tbs n ns [[]]) : Full n ns t := by
  obtain ⟨h1, h2⟩ := tbs_sound (pre := []) (fun t ht => by rw [List.mem_singleton.mp ht]; exact ⟨rfl, fun q hq => (nomatch hq)⟩) t h
  exact ⟨h1, h2⟩
theorem match_eq {d t : List (Str × Int)} (f : Full n ns t) (nd : ns.Nodup) (hd : Row n ns d) (hl : ns.length ≤ 100) : (mapS (fun q : Str × Int => (lookM t q.1).bind fun v => some (v == q.2)) d).bind (fun z => some (z.all id)) = some (mt d t) := by
  have := hd.t.ln
  rw [mapS_map (xs := d) (g := fun q => decide (lookM t q.1 = some q.2)) (by omega) (fun q hq => by
    obtain ⟨h1, _⟩ := f.at_ nd (hd.k q hq)
    rw [h1]
    simp only [bs]
    congr 1
    by_cases e : (vl t q.1 : Int) = q.2
    · rw [e]; simp
    · rw [decide_eq_false (fun z => e (Option.some.inj z))]; simp [e])]
  simp only [bs]
  unfold mt
  congr 1
  rw [List.all_map]
  rfl
theorem pick_eq {d : List (Str × Int)} {ts : List (List (Str × Int))} (f : ∀ t ∈ ts, Full n ns t) (nd : ns.Nodup) (hd : Row n ns d) (hl : ns.length ≤ 100) (ht : ts.length < 100000) :
    lcS (fun x => (mapS (fun q : Str × Int => (lookM x q.1).bind fun v => some (v == q.2)) d).bind fun z => some (z.all id)) (fun x => some x) ts = some (ts.filter (mt d)) := by
  have := lcS_map (xs := ts) (a := fun t : List (Str × Int) => t) (p' := fun x => (mapS (fun q : Str × Int => (lookM x q.1).bind fun v => some (v == q.2)) d).bind fun z => some (z.all id)) (f := fun x => some x) (p := mt d) (g := fun x => x) ht (fun t h => match_eq (f t h) nd hd hl) (fun _ _ => rfl)
  rw [List.map_id', List.map_id'] at this
  exact this
def below (ms : List Nat) (ns : List Str) (lo hi : List (Str × Int)) : Bool := ns.all fun x => mle ms (vl lo x) (vl hi x)
theorem parted_b2 {ms : List Nat} {lo hi : List (Str × Int)} (nd : ns.Nodup) (hl : ns.length ≤ 100) (f1 : Full ms.length ns lo) (f2 : Full ms.length ns hi) : m__law_parted_b2 lo (nts ms) ns hi () = some (bif below ms ns lo hi then .rt true else .nx ()) := by
  unfold m__law_parted_b2
  simp only [Option.bind_eq_bind]
  rw [mapS_map (xs := ns) (g := fun x => mle ms (vl lo x) (vl hi x)) (by omega) (fun x hx => by
    obtain ⟨h1, h2⟩ := f1.at_ nd hx
    obtain ⟨h3, h4⟩ := f2.at_ nd hx
    rw [h1, h3]
    simp only [bs]
    exact under_eq h2 h4)]
  simp only [bs]
  rw [List.all_map]
  unfold below
  show (bif (ns.all fun x => mle ms (vl lo x) (vl hi x)) then _ else _) = _
  cases (ns.all fun x => mle ms (vl lo x) (vl hi x)) <;> rfl
theorem parted_eq {ms : List Nat} {d1 d2 : List (Str × Int)} {r1 r2 : Nat} (hn : ms.length ≤ 6) (nd : ns.Nodup) (hs : ns.length ≤ 4) (R1 : Row ms.length ns d1) (R2 : Row ms.length ns d2) (h1 : r1 < ms.length) (h2 : r2 < ms.length) :
    m__law_parted (nts ms) ns (d1, (r1 : Int)) (d2, (r2 : Int)) = some (!(mle ms r1 r2) && ((tbs ms.length ns [[]]).filter (mt d1)).any fun lo => ((tbs ms.length ns [[]]).filter (mt d2)).any fun hi => below ms ns lo hi) := by
  have hf : ∀ t ∈ tbs ms.length ns [[]], Full ms.length ns t := fun t h => full_tbs h
  have hl : (tbs ms.length ns [[]]).length < 100000 := by
    have := tbs_len hn (xs := ns) (ts := [[]]) (j := 0) (by simp)
    have h6 : 6 ^ (0 + ns.length) ≤ 6 ^ 4 := Nat.pow_le_pow_right (by omega) (by omega)
    omega
  unfold m__law_parted
  rw [nts_len, tables_eq hn nd hs]
  simp only [Option.bind_eq_bind, bs]
  rw [pick_eq hf nd R1 (by omega) hl]
  simp only [bs]
  rw [pick_eq hf nd R2 (by omega) hl]
  simp only [bs]
  rw [under_eq h1 h2]
  simp only [bs]
  cases mle ms r1 r2 with
  | true => rfl
  | false =>
    simp only [cfa]
    rw [forL_any (P := fun lo => ((tbs ms.length ns [[]]).filter (mt d2)).any fun hi => below ms ns lo hi) (r := true)]
    · simp only [bs]
      cases ((tbs ms.length ns [[]]).filter (mt d1)).any fun lo => ((tbs ms.length ns [[]]).filter (mt d2)).any fun hi => below ms ns lo hi <;> rfl
    · intro lo hlo
      unfold m__law_parted_b1
      simp only [Option.bind_eq_bind, bs]
      rw [forL_any (P := fun hi => below ms ns lo hi) (r := true) (fun hi hhi => parted_b2 nd (by omega) (hf _ (List.mem_filter.mp hlo).1) (hf _ (List.mem_filter.mp hhi).1))]
      simp only [bs]
      cases ((tbs ms.length ns [[]]).filter (mt d2)).any fun hi => below ms ns lo hi <;> rfl
theorem mt_iff {d t : List (Str × Int)} : mt d t = true ↔ ∀ q ∈ d, lookM t q.1 = some q.2 := by
  unfold mt
  rw [List.all_eq_true]
  exact ⟨fun h q hq => of_decide_eq_true (h q hq), fun h q hq => decide_eq_true (h q hq)⟩
theorem look_map {g : Str → Nat} : ∀ {xs : List Str} {x : Str}, x ∈ xs → lookM (xs.map fun y => (y, (g y : Int))) x = some (g x : Int)
  | [], x, h => nomatch h
  | y :: ys, x, h => by
    unfold lookM
    rw [List.map_cons, List.find?_cons]
    by_cases e : y = x
    · rw [decide_eq_true e, e]; rfl
    · rw [decide_eq_false e]
      rcases List.mem_cons.mp h with rfl | h
      · exact absurd rfl e
      · exact look_map (g := g) h
theorem cmp_iff {ms : List Nat} {d1 d2 : List (Str × Int)} (rf : ∀ a < ms.length, mle ms a a = true) (nd : ns.Nodup) (R1 : Row ms.length ns d1) (R2 : Row ms.length ns d2) (hn : 0 < ms.length) :
    (((tbs ms.length ns [[]]).filter (mt d1)).any fun lo => ((tbs ms.length ns [[]]).filter (mt d2)).any fun hi => below ms ns lo hi) = d1.all fun q => match lookM d2 q.1 with | some v => mle ms q.2.toNat v.toNat | none => true := by
  rw [Bool.eq_iff_iff]
  constructor
  · intro h
    obtain ⟨lo, hlo, h⟩ := List.any_eq_true.mp h
    obtain ⟨hi, hhi, h⟩ := List.any_eq_true.mp h
    obtain ⟨l1, l2⟩ := List.mem_filter.mp hlo
    obtain ⟨u1, u2⟩ := List.mem_filter.mp hhi
    rw [List.all_eq_true]
    intro q hq
    cases e : lookM d2 q.1 with
    | none => rfl
    | some v =>
      show mle ms q.2.toNat v.toNat = true
      have k1 := mt_iff.mp l2 q hq
      have k2 := mt_iff.mp u2 _ (look_mem e)
      have := List.all_eq_true.mp h q.1 (R1.k q hq)
      unfold vl at this
      rw [k1, show lookM hi q.1 = some v from k2] at this
      exact this
  · intro h
    rw [List.all_eq_true] at h
    have val : ∀ {d : List (Str × Int)} {x : Str} {v : Int}, Row ms.length ns d → lookM d x = some v → ∃ a : Nat, a < ms.length ∧ v = (a : Int) := fun R e => R.t.rg _ (look_mem e)
    let g1 : Str → Nat := fun x => match lookM d1 x with
      | some v => v.toNat
      | none => match lookM d2 x with
        | some v => v.toNat
        | none => 0
    let g2 : Str → Nat := fun x => match lookM d2 x with
      | some v => v.toNat
      | none => match lookM d1 x with
        | some v => v.toNat
        | none => 0
    have b1 : ∀ x ∈ ns, g1 x < ms.length := fun x _ => by
      show (match lookM d1 x with | some v => v.toNat | none => match lookM d2 x with | some v => v.toNat | none => 0) < _
      cases e : lookM d1 x with
      | some v => obtain ⟨a, ha, rfl⟩ := val R1 e; simpa using ha
      | none =>
        cases e2 : lookM d2 x with
        | some v => obtain ⟨a, ha, rfl⟩ := val R2 e2; simpa using ha
        | none => exact hn
    have b2 : ∀ x ∈ ns, g2 x < ms.length := fun x _ => by
      show (match lookM d2 x with | some v => v.toNat | none => match lookM d1 x with | some v => v.toNat | none => 0) < _
      cases e : lookM d2 x with
      | some v => obtain ⟨a, ha, rfl⟩ := val R2 e; simpa using ha
      | none =>
        cases e2 : lookM d1 x with
        | some v => obtain ⟨a, ha, rfl⟩ := val R1 e2; simpa using ha
        | none => exact hn
    have m1 : ns.map (fun x => (x, (g1 x : Int))) ∈ tbs ms.length ns [[]] := by
      have := tbs_full (g := g1) (xs := ns) (ts := [[]]) (t := []) (List.mem_singleton.mpr rfl) b1
      exact this
    have m2 : ns.map (fun x => (x, (g2 x : Int))) ∈ tbs ms.length ns [[]] := by
      have := tbs_full (g := g2) (xs := ns) (ts := [[]]) (t := []) (List.mem_singleton.mpr rfl) b2
      exact this
    rw [List.any_eq_true]
    refine ⟨_, List.mem_filter.mpr ⟨m1, mt_iff.mpr fun q hq => ?_⟩, ?_⟩
    · rw [look_map (R1.k q hq)]
      have e := look_nd R1.t.nd (k := q.1) (x := q.2) hq
      obtain ⟨a, ha, ea⟩ := R1.t.rg q hq
      show some ((match lookM d1 q.1 with | some v => v.toNat | none => match lookM d2 q.1 with | some v => v.toNat | none => 0 : Nat) : Int) = _
      rw [e, ea]
      simp
    · rw [List.any_eq_true]
      refine ⟨_, List.mem_filter.mpr ⟨m2, mt_iff.mpr fun q hq => ?_⟩, ?_⟩
      · rw [look_map (R2.k q hq)]
        have e := look_nd R2.t.nd (k := q.1) (x := q.2) hq
        obtain ⟨a, ha, ea⟩ := R2.t.rg q hq
        show some ((match lookM d2 q.1 with | some v => v.toNat | none => match lookM d1 q.1 with | some v => v.toNat | none => 0 : Nat) : Int) = _
        rw [e, ea]
        simp
      · unfold below
        rw [List.all_eq_true]
        intro x hx
        unfold vl
        rw [look_map hx, look_map hx]
        simp only [Option.getD_some, Int.toNat_natCast]
        cases e1 : lookM d1 x with
        | some v =>
          cases e2 : lookM d2 x with
          | some u =>
            have := h _ (look_mem e1)
            rw [show lookM d2 (x, v).1 = some u from e2] at this
            have this : mle ms v.toNat u.toNat = true := this
            show mle ms (match lookM d1 x with | some v => v.toNat | none => match lookM d2 x with | some v => v.toNat | none => 0) (match lookM d2 x with | some v => v.toNat | none => match lookM d1 x with | some v => v.toNat | none => 0) = true
            rw [e1, e2]
            exact this
          | none =>
            show mle ms (match lookM d1 x with | some v => v.toNat | none => match lookM d2 x with | some v => v.toNat | none => 0) (match lookM d2 x with | some v => v.toNat | none => match lookM d1 x with | some v => v.toNat | none => 0) = true
            have := b1 x hx
            have this : (match lookM d1 x with | some v => v.toNat | none => match lookM d2 x with | some v => v.toNat | none => 0) < ms.length := this
            rw [e1] at this
            rw [e1, e2]
            exact rf _ this
        | none =>
          show mle ms (match lookM d1 x with | some v => v.toNat | none => match lookM d2 x with | some v => v.toNat | none => 0) (match lookM d2 x with | some v => v.toNat | none => match lookM d1 x with | some v => v.toNat | none => 0) = true
          have := b2 x hx
          have this : (match lookM d2 x with | some v => v.toNat | none => match lookM d1 x with | some v => v.toNat | none => 0) < ms.length := this
          rw [e1] at this ⊢
          cases e2 : lookM d2 x with
          | some u => rw [e2] at this; exact rf _ this
          | none => rw [e2] at this; exact rf _ this
theorem parted_fal {ms : List Nat} {d1 d2 : List (Str × Int)} {r1 r2 : Nat} (rf : ∀ a < ms.length, mle ms a a = true) (hn : ms.length ≤ 6) (nd : ns.Nodup) (hs : ns.length ≤ 4) (R1 : Row ms.length ns d1) (R2 : Row ms.length ns d2) (h1 : r1 < ms.length) (h2 : r2 < ms.length) :
    m__law_parted (nts ms) ns (d1, (r1 : Int)) (d2, (r2 : Int)) = some (fal (mle ms) d1 r1 d2 r2) := by
  rw [parted_eq hn nd hs R1 R2 h1 h2, cmp_iff rf nd R1 R2 (by omega)]
  unfold fal
  rw [Bool.and_comm]
  try rfl
/-! ### evaluated -/
theorem eval_loop (hn : 0 < n) : ∀ {xs : List Str} {p : List Int} {t : List (Str × Int)} {l : Nat}, Tb n l t → l + xs.length ≤ 1000 → ∃ p' t', forS (m__law_evaluated_b1 (n : Int)) xs (p, t) = some (p', t') ∧ Tb n (l + xs.length) t' ∧ (∀ x ∈ t.map (·.1), x ∈ t'.map (·.1)) ∧ ∀ x ∈ xs, x ∈ t'.map (·.1)
  | [], p, t, l, h, _ => ⟨p, t, rfl, h, fun _ z => z, fun x z => (nomatch z)⟩
  | x :: xs, p, t, l, h, hl => by
    rw [List.length_cons] at hl
    have := h.ln
    show ∃ p' t', (m__law_evaluated_b1 (n : Int) x (p, t) >>= forS (m__law_evaluated_b1 (n : Int)) xs) = _ ∧ _
    unfold m__law_evaluated_b1
    simp only [Option.bind_eq_bind, bs]
    obtain ⟨v, p2, e, hv⟩ := draw_eq p hn
    rw [e]
    simp only [bs]
    rw [putMM_ok (by omega)]
    simp only [bs]
    obtain ⟨p', t', e1, e2, e3, e4⟩ := eval_loop hn (xs := xs) (p := p2) (h.put (k := x) hv) (by omega)
    have hx : x ∈ (putM t x (v : Int)).map (·.1) := by
      rw [put_keys]
      split
      · assumption
      · simp
    have hk : ∀ y ∈ t.map (·.1), y ∈ (putM t x (v : Int)).map (·.1) := fun y hy => by
      rw [put_keys]
      split
      · exact hy
      · exact List.mem_append_left _ hy
    refine ⟨p', t', e1, by rw [List.length_cons, show l + (xs.length + 1) = l + 1 + xs.length by omega]; exact e2, fun y hy => e3 y (hk y hy), fun y hy => ?_⟩
    rcases List.mem_cons.mp hy with rfl | hy
    · exact e3 _ hx
    · exact e4 y hy
theorem evaluated_eq (pot : List Int) {nd : List (Str × List Int)} (h : ∀ q ∈ nd, NdOk n nd.length ns q) (hl : nd.length < 100) (hn : 0 < n) (hs : ns.length ≤ 100) :
    ∃ (d : List (Str × Int)) (r : Nat) (p' : List Int) (T : Str → Nat), m__law_evaluated pot nd ns (n : Int) = some ((d, (r : Int)), p') ∧ (∀ x ∈ ns, T x < n) ∧ d = (runN nd n T nd.length 0 []).2 ∧ Row n ns d ∧ r < n := by
  unfold m__law_evaluated
  simp only [Option.bind_eq_bind, bs]
  obtain ⟨p1, t, e, h1, _, h3⟩ := eval_loop hn (xs := ns) (p := pot) (t := []) (l := 0) Tb.nil (by omega)
  rw [e]
  simp only [bs]
  have tk : ∀ x ∈ ns, lookM t x = some ((vl t x : Nat) : Int) ∧ vl t x < n := fun x hx => by
    obtain ⟨q, hq, rfl⟩ := List.mem_map.mp (h3 x hx)
    obtain ⟨a, ha, e⟩ := h1.rg q hq
    have := look_nd h1.nd (k := q.1) (x := q.2) hq
    unfold vl
    rw [this, e]
    simp [ha]
  have hT : ∀ x ∈ ns, vl t x < n := fun x hx => (tk x hx).2
  rw [run_eq (T := vl t) h hl hT fun x hx => (tk x hx).1]
  simp only [bs]
  obtain ⟨r1, r2⟩ := run_row h hn hT nd.length 0 [] (by omega) Row.nil
  obtain ⟨v, p2, e, hv⟩ := draw_lit p1 2 (by decide) (z := 2) rfl
  rw [e]
  simp only [bs]
  cases ((v : Int) == 1) with
  | true =>
    simp only [ctr]
    obtain ⟨u, p3, e, hu⟩ := draw_eq p2 hn
    rw [e]
    exact ⟨_, u, p3, vl t, rfl, hT, rfl, r1, hu⟩
  | false =>
    exact ⟨_, _, p2, vl t, rfl, hT, rfl, r1, r2⟩
end
theorem many_eq {k : Nat} (h : 0 < k) (h6 : k ≤ 6) (pot : List Int) : ∃ (z : Int) (v : Nat) (p' : List Int), atI ([(1 : Int), (4 : Int), (4 : Int), (3 : Int), (2 : Int), (2 : Int), (1 : Int)]) (k : Int) = some z ∧ m__law_draw pot z = some ((v : Int), p') ∧ v < 4 := by
  have key : ∀ (c : Nat) (z : Int), 0 < c → c ≤ 4 → z = (c : Int) → ∃ (v : Nat) (p' : List Int), m__law_draw pot z = some ((v : Int), p') ∧ v < 4 := fun c z h1 h2 hz => by
    obtain ⟨v, p', e, hv⟩ := draw_lit pot c h1 hz
    exact ⟨v, p', e, by omega⟩
  match k, h, h6 with
  | 1, _, _ => obtain ⟨v, p', e⟩ := key 4 4 (by omega) (by omega) rfl; exact ⟨4, v, p', rfl, e⟩
  | 2, _, _ => obtain ⟨v, p', e⟩ := key 4 4 (by omega) (by omega) rfl; exact ⟨4, v, p', rfl, e⟩
  | 3, _, _ => obtain ⟨v, p', e⟩ := key 3 3 (by omega) (by omega) rfl; exact ⟨3, v, p', rfl, e⟩
  | 4, _, _ => obtain ⟨v, p', e⟩ := key 2 2 (by omega) (by omega) rfl; exact ⟨2, v, p', rfl, e⟩
  | 5, _, _ => obtain ⟨v, p', e⟩ := key 2 2 (by omega) (by omega) rfl; exact ⟨2, v, p', rfl, e⟩
  | 6, _, _ => obtain ⟨v, p', e⟩ := key 1 1 (by omega) (by omega) rfl; exact ⟨1, v, p', rfl, e⟩
theorem law_true (sc : List Int) : m_law sc = some true := by
  obtain ⟨pot, e⟩ := pot_eq sc
  unfold m_law
  rw [e]
  simp only [Option.bind_eq_bind, bs]
  obtain ⟨ms, p1, e, hM, hl⟩ := masks_eq pot (most := 6) (by decide)
  have e : m__law_masks pot 6 = some (nts ms, p1) := e
  rw [e]
  simp only [bs, nts_len]
  rw [pairs_eq (ms := ms) (by omega)]
  simp only [bs]
  have L := mLat hM (by omega)
  have hn := L.lo
  obtain ⟨o, e, hO⟩ := Order_init_eq L (relp_gens hM)
  rw [e]
  simp only [bs]
  obtain ⟨z, v, p2, e1, e, hv⟩ := many_eq hn hl p1
  rw [e1]
  simp only [bs]
  rw [e]
  simp only [bs]
  rw [show (1 : Int) + (v : Int) = ((1 + v : Nat) : Int) by omega]
  obtain ⟨ns, p3, e, nd, hs⟩ := names_eq p2 (many := 1 + v) (by omega)
  rw [e]
  simp only [bs]
  obtain ⟨nodes, p4, e, hnl, hN⟩ := nodes_eq p3 (n := ms.length) (ns := ns) hn (by omega) (by omega) (by omega)
  rw [e]
  simp only [bs]
  obtain ⟨d1, r1, p5, T1, e, t1, g1, R1, h1⟩ := evaluated_eq p4 hN (by omega) hn (by omega)
  rw [e]
  simp only [bs]
  obtain ⟨d2, r2, p6, T2, e, t2, g2, R2, h2⟩ := evaluated_eq p5 hN (by omega) hn (by omega)
  rw [e]
  simp only [bs]
  have hsh : shp d1 d2 = false := by
    rw [g1, g2]
    exact twin hN t1 nodes.length 0 [] (by omega) (fun q hq => (nomatch hq)) fun q hq => (nomatch hq)
  have rf : ∀ a < ms.length, mle ms a a = true := fun a ha => L.o.rf a ha
  have b0 : atI ns (0 : Int) = some ns[0] := atI_nat (i := 0) (by omega)
  rw [parted_fal rf (by omega) nd (by omega) R1 R2 h1 h2, parted_fal rf (by omega) nd (by omega) R2 R1 h2 h1, b0]
  simp only [bs]
  rw [rec_eqW R1.t (by omega), rec_eqW R2.t (by omega)]
  simp only [bs]
  have hd : (orO (some (fal (mle ms) d1 r1 d2 r2)) (some (fal (mle ms) d2 r2 d1 r1))).bind (fun b => bif b then (some (some ("values" : Str)) : Option (Option Str)) else some none) = some (due (mle ms) d1 r1 d2 r2) := by
    unfold due
    rw [hsh]
    cases fal (mle ms) d1 r1 d2 r2 <;> cases fal (mle ms) d2 r2 d1 r1 <;> rfl
  rw [hd]
  simp only [bs]
  rw [clash_eq (a := ⟨ns[0], d1, (r1 : Int)⟩) (b := ⟨ns[0], d2, (r2 : Int)⟩) hO R1.t R2.t rfl rfl h1 h2, clash_eq (a := ⟨ns[0], d2, (r2 : Int)⟩) (b := ⟨ns[0], d1, (r1 : Int)⟩) hO R2.t R1.t rfl rfl h2 h1]
  simp only [if_true, bs, due_comm (mle ms) d2 r2 d1 r1, decide_true]
  rfl
end My

set_option maxHeartbeats 0
namespace My
open PySem PySem.Spec PyProof.Rows L2 Sim
abbrev Rw1 : PySem.W.OpenRow := PySem.W.OpenLaw.row PySem.Challenge.rw_askedpoints_k25_values_clash_shown_by_ta
abbrev hk : PySem.W.Hook := hookT 5 fa fn ex xs gs sp tf P.main.file
def ob (s : PySem.W.SharedT) : AlT := obsTG 5 fa fn ex xs gs sp tf P.main.file (HandSHeadRun.getT s)
theorem ob_eq (s : PySem.W.SharedT) : ob s = hk.obs s.abs := obsTG_eq (HandSHeadRun.getT_eq s)
def loose0 : List PySem.Str := ["_wall", "AskedError", "BadSize", "NotElement", "Ring", "NoJoin", "NoMeet", "AskedTwice", "Record", "same_start", "shape_clash", "falls", "clash", "closure", "turned"]
def loose1 : List PySem.Str := ["least_above", "bounds_table", "first_ring", "first_lack", "longest", "neighbours", "Order", "_law_pot", "_law_draw", "_law_masks", "_law_under", "_law_pairs", "_law_names", "_law_nodes", "_law_run"]
def loose2 : List PySem.Str := ["_law_look", "_law_tables", "_law_parted", "_law_evaluated"]
def loose : List PySem.Str := loose0 ++ (loose1 ++ (loose2))
theorem run (w : World) : HandSHeadRun.RunEq Rw1 (PySem.W.view Rw1.prog [40]) hk ob 9000 loose w := by
  intro os
  kernel_rfl
theorem glo_law (K : PySem.W.Frag) (mg : Str → Option Value) (T : Tx K mg) : mg "law" = some (.ref (He.ga K "law")) := T.glo 34 rfl
end My
open PySem PySem.W PySem.Calls PyProof.Rows
theorem PySem.Challenge.cw_askedpoints_k25_values_clash_shown_by_ta_holds : PySem.Challenge.rw_askedpoints_k25_values_clash_shown_by_ta.Holds := by
  w_on; o_law
  refine HandSHeadRun.head_any (r := OpenLaw.row PySem.Challenge.rw_askedpoints_k25_values_clash_shown_by_ta) (q := view (OpenLaw.row PySem.Challenge.rw_askedpoints_k25_values_clash_shown_by_ta).prog [40]) (H := My.hk) (ob := My.ob) (M := 9000) (loose := My.loose) (d := HandSHeadRun.topDef (OpenLaw.row PySem.Challenge.rw_askedpoints_k25_values_clash_shown_by_ta).prog 40) (kwd := []) My.ob_eq
    (by kernel_rfl) (fun s => by kernel_rfl) My.run (by kernel_rfl) (by kernel_rfl) (by kernel_rfl) (by rfl) (by first | assumption | decide +kernel) (by decide +kernel) ⟨rfl, rfl, rfl, rfl, rfl, by decide +kernel⟩ ?hw ?hc
  case hw => w_witness2
  case hc =>
    refine LamX.walk_ofTsE (l := PySem.Challenge.rw_askedpoints_k25_values_clash_shown_by_ta) (n := 63) (k := 5) (x := "_law_script") (CX := fun _ => L2.CX0) rfl (by decide) (by kernel_rfl) ⟨rfl, by decide, by decide⟩ ?F (fun _ _ _ _ _ z => z)
    intro w mg fa h Y G hmg0
    obtain ⟨K, KX, c⟩ := Y
    have T : My.Tx K mg := (Sim.TxZ.mk' KX G c.s).toTxX
    have e : (HandSHeadRun.topDef (OpenLaw.row PySem.Challenge.rw_askedpoints_k25_values_clash_shown_by_ta).prog 40).name = ("law" : PySem.Str) := by kernel_rfl
    rw [e, My.glo_law K mg T] at hmg0
    cases hmg0
    obtain ⟨fd, F, hF⟩ := My.ok_law (w := w) T
    exact ⟨K, KX, Sim.lawT KX c (fun s u => F.bindsA (ps := ["_law_script"]) (fun kV doc pm an cdv ct us hl => by (cases us with | nil => cases hl | cons a t => cases t with | nil => rfl | cons b t => cases hl)) s [u] rfl) My.law_true (fun base Y => hF base Y)⟩
